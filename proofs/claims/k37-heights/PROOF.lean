import PyProof.Rows.All
import Wide.All
import OpenK.AllK
import Wide.FinOn
import HandS.ForMost
import HandS.ForExc
import HandS.Wide
import HandS.TupAny
import HandS.TupLe
import HandS.CallSlots
import HandS.Flow
import HandS.NoneIn
import HandS.RaiseMore
import HandS.Zip
import HandS.IsInst
import HandS.Style
import HandS.FStr
import HandS.SetFor
import HandS.SortInts
import HandS.Deep
import HandS.TupMul
import HandS.Exc
import HandS.ExcInit
import HandS.ExcIs
import KE.KExcInit
import PyProof.ExcBaseAll.LookupError
import PyProof.ExcBaseAll.ZeroDivisionError
import PyProof.ExcBaseAll.ValueError
import KE.GoesMore
import HandS.EndBits
import HandS.ExcField
import KE.KExcIs
import HandS.Conv
import KE.DataMinMax
import PyProof.Claim2Refuses
import KE.KDictKeyed
import HandS.Dict
import HandS.Defaults
import KE.BitLaws
import HandS.Nested
import HandS.NestedK
import HandS.EndTab
import KE.KDictWalk
import KE.KDictSum
import KE.SortKeyHeap
import HandS.SetKeys
import PySem.Challenge.RW_inkcover_k37_heights_told
set_option Elab.async false
set_option linter.all false
set_option maxRecDepth 100000
set_option maxHeartbeats 4000000
/-! DLa: data-level values, stores, how they are borne by the abstract heap -/
namespace L2.DL
open PySem PySem.Spec PyProof.Rows

/-- the tables of code objects that the defs have in which functions are made -/
class Tbs where
  T : List NdefX.NTab
/-- a function that an expression made: its words, the cells that it captured, its code object -/
structure LFn where
  qual : Str
  params : Arguments
  body : Expr
  scope : Scope
  cl : List (Str × Addr)
  c : Addr
/-- the object at f is this function -/
def FnL (f : Addr) (F : LFn) : HO := .ext fun h => ∃ (pm ctv : Value), h.get? f = some (PySem.W.kla_obj "<lambda>" F.qual F.params F.body F.scope F.cl pm F.c ctv)
/-- a value: tuples and lists that nobody changes by their items; what may change by its address -/
inductive D where
  | non | bl (b : Bool) | int (i : Int) | str (x : Str) | ty (n : String) | ref (a : Addr) | tup (ds : List D) | lst (ds : List D)
  /-- the script -/
  | scr (ns : List Int)
  /-- the def of this global name -/
  | fn (x : Str)
  /-- a function that was made, and what its captured names hold -/
  | clo (F : LFn) (ws : List V) (cs : List D)

/-- an object that may change -/
inductive MO where
  | lst (ds : List D)
  | dk (kvs : List (Key × D))
  /-- a dict whose keys are tuples of whole numbers, nested -/
  | dn (kvs : List (PySem.NestedKey × D))
  | ins (C dx : Addr) (fs : List (Str × D))
  /-- a caught exception's fields -/
  | xd (fs : List (Str × D))
abbrev MS := Addr → Option MO
def um (M : MS) (a : Addr) (o : MO) : MS := fun b => if b = a then some o else M b
theorem um_same {M : MS} {a : Addr} {o : MO} : um M a o a = some o := by unfold um; rw [if_pos rfl]
theorem um_ne {M : MS} {a b : Addr} {o : MO} (h : b ≠ a) : um M a o b = M b := by unfold um; rw [if_neg h]
theorem um_um {M : MS} {a : Addr} {o u : MO} : um (um M a o) a u = um M a u := by
  funext b; unfold um; split <;> rfl
theorem um_self {M : MS} {a : Addr} {o : MO} (h : M a = some o) : um M a o = M := by
  funext b; unfold um; split
  · next e => rw [e, h]
  · rfl
/-- N tells no more than M -/
def Le (N M : MS) : Prop := ∀ a o, N a = some o → M a = some o
theorem Le.refl (M : MS) : Le M M := fun _ _ h => h
theorem Le.trans {A B C : MS} (h : Le A B) (k : Le B C) : Le A C := fun a o e => k a o (h a o e)
theorem Le.um {M : MS} {a : Addr} {o : MO} (h : M a = none) : Le M (um M a o) := fun b u e => by
  rw [um_ne (fun z => by rw [z, h] at e; cases e)]; exact e

/-- a list of the module's own -/
def KL (K : PySem.W.Frag) (p : Addr) (vs : List V) : Prop :=
  ∃ (o : Obj) (its : Array Value) (n : Nat), K.lookup p = some o ∧ o.cls = .type "list" ∧ o.dict = none ∧ o.data = .seq its n ∧ its.size ≤ sizeLine ∧ Vals vs its.toList
inductive IsF : HO → Prop
  | lst (vs : List V) : IsF (.lst vs)
  | ext (φ : Heap → Prop) : IsF (.ext φ)
  | tbl (ps : Array Value) : IsF (.tbl ps)
abbrev FO := { u : HO // IsF u }
abbrev foL (vs : List V) : FO := ⟨.lst vs, .lst vs⟩
abbrev foE (φ : Heap → Prop) : FO := ⟨.ext φ, .ext φ⟩
/-- the written part; the lists that a comprehension is filling, what is locked -/
structure ZK where
  K : PySem.W.Frag
  hid : Addr → Option FO
/-- an object that nobody changes -/
def Fo (K : ZK) (H : Hp) (M : MS) (p : Addr) (o : HO) : Prop := (M p = none ∧ K.hid p = none) ∧ H p = some o
abbrev Fz (K : ZK) (H : Hp) (M : MS) (p : Addr) (vs : List V) : Prop := Fo K H M p (.lst vs)
def FoExt (K : ZK) (H : Hp) (M : MS) (K' : ZK) (H' : Hp) (M' : MS) : Prop := ∀ p o, IsF o → Fo K H M p o → Fo K' H' M' p o
def Sc (K : PySem.W.Frag) (H : Hp) (p : Addr) (vs : List V) : Prop := (∃ ob, H p = some (.frz ob (.lst vs))) ∨ KL K p vs
theorem Fo.sq {K : ZK} {H : Hp} {M : MS} {p : Addr} {vs : List V} (h : Fz K H M p vs) : SqL K.K H p vs := .inl (.inl h.2)
theorem Sc.sq {K : PySem.W.Frag} {H : Hp} {p : Addr} {vs : List V} (h : Sc K H p vs) : SqL K H p vs := by
  rcases h with h | h
  · exact .inl (.inr h)
  · exact .inr h
theorem Fo.le {K : ZK} {H : Hp} {M N : MS} {p : Addr} {o : HO} (h : Fo K H M p o) (l : Le N M) : Fo K H N p o := by
  refine ⟨⟨?_, h.1.2⟩, h.2⟩
  cases q : N p with
  | none => rfl
  | some u => have z := h.1.1; rw [l p u q] at z; cases z

mutual
inductive Rel (K : ZK) (H : Hp) (M : MS) : V → D → Prop
  | non : Rel K H M .non .non
  | bl (b : Bool) : Rel K H M (.bl b) (.bl b)
  | int (i : Int) : Rel K H M (.int i) (.int i)
  | str (x : Str) : Rel K H M (.str x) (.str x)
  | ty (n : String) : Rel K H M (.ty n) (.ty n)
  | ref (a : Addr) : Rel K H M (.ref a) (.ref a)
  | tup {p : Addr} {vs : List V} {ds : List D} : SqT K.K H p vs → RelA K H M vs ds → Rel K H M (.ref p) (.tup ds)
  | lst {p : Addr} {vs : List V} {ds : List D} : Fz K H M p vs → RelA K H M vs ds → Rel K H M (.ref p) (.lst ds)
  | scr {p : Addr} {ns : List Int} : Sc K.K H p (ns.map V.int) → Rel K H M (.ref p) (.scr ns)
  | fn {p : Addr} {x : Str} : PySem.W.nsIn K.K mainGlobals x = some (some (.ref p)) → Rel K H M (.ref p) (.fn x)
  | clo {p : Addr} {F : LFn} {ws : List V} {cs : List D} : Fo K H M p (FnL p F) → Fo K H M F.c (LamX.CodeO F.c F.qual) → RelA K H M ws cs → Rel K H M (.ref p) (.clo F ws cs)
inductive RelA (K : ZK) (H : Hp) (M : MS) : List V → List D → Prop
  | nil : RelA K H M [] []
  | cons {v : V} {vs : List V} {d : D} {ds : List D} : Rel K H M v d → RelA K H M vs ds → RelA K H M (v :: vs) (d :: ds)
end

section
variable {K K' : ZK} {H H' H1 H2 : Hp} {M M' M1 M2 : MS}
mutual
theorem Rel.mono (hN : K'.K = K.K) (hT : ∀ p xs, SqT K.K H p xs → SqT K'.K H' p xs) (hF : ∀ p o, IsF o → (∀ ps, o ≠ .tbl ps) → Fo K H M p o → Fo K' H' M' p o) (hS : ∀ p xs, Sc K.K H p xs → Sc K'.K H' p xs) : ∀ (d : D) (v : V), Rel K H M v d → Rel K' H' M' v d
  | .non, _, h => by cases h; exact .non
  | .bl b, _, h => by cases h; exact .bl b
  | .int b, _, h => by cases h; exact .int b
  | .str b, _, h => by cases h; exact .str b
  | .ty b, _, h => by cases h; exact .ty b
  | .ref b, _, h => by cases h; exact .ref b
  | .tup ds, _, h => by
    cases h with
    | tup a b => exact .tup (hT _ _ a) (Rel.monoA hN hT hF hS ds _ b)
  | .lst ds, _, h => by
    cases h with
    | lst a b => exact .lst (hF _ _ (.lst _) (fun _ z => nomatch z) a) (Rel.monoA hN hT hF hS ds _ b)
  | .scr ns, _, h => by
    cases h with
    | scr a => exact .scr (hS _ _ a)
  | .fn x, _, h => by
    cases h with
    | fn a => exact .fn (by rw [hN]; exact a)
  | .clo F ws cs, _, h => by
    cases h with
    | clo a c b => exact .clo (hF _ _ (.ext _) (fun _ z => nomatch z) a) (hF _ _ (.ext _) (fun _ z => nomatch z) c) (Rel.monoA hN hT hF hS cs _ b)
theorem Rel.monoA (hN : K'.K = K.K) (hT : ∀ p xs, SqT K.K H p xs → SqT K'.K H' p xs) (hF : ∀ p o, IsF o → (∀ ps, o ≠ .tbl ps) → Fo K H M p o → Fo K' H' M' p o) (hS : ∀ p xs, Sc K.K H p xs → Sc K'.K H' p xs) : ∀ (ds : List D) (vs : List V), RelA K H M vs ds → RelA K' H' M' vs ds
  | [], _, h => by cases h; exact .nil
  | d :: ds, _, h => by
    cases h with
    | cons a b => exact .cons (Rel.mono hN hT hF hS d _ a) (Rel.monoA hN hT hF hS ds _ b)
end

/-- whatever was borne is borne -/
def Ext (K : ZK) (H : Hp) (M : MS) (H' : Hp) (M' : MS) : Prop := ∀ v d, Rel K H M v d → Rel K H' M' v d
theorem Ext.refl : Ext K H M H M := fun _ _ h => h
theorem Ext.trans (a : Ext K H M H1 M1) (b : Ext K H1 M1 H2 M2) : Ext K H M H2 M2 := fun v d h => b v d (a v d h)
theorem Ext.of (hT : ∀ p xs, SqT K.K H p xs → SqT K.K H' p xs) (hF : FoExt K H M K H' M') (hS : ∀ p xs, Sc K.K H p xs → Sc K.K H' p xs) : Ext K H M H' M' := fun v d h => Rel.mono rfl hT (fun p o i _ s => hF p o i s) hS d v h
theorem Ext.all (e : Ext K H M H' M') : ∀ {ds : List D} {vs : List V}, RelA K H M vs ds → RelA K H' M' vs ds
  | _, _, .nil => .nil
  | _, _, .cons a b => .cons (e _ _ a) (Ext.all e b)
/-- .. by another view of what is hidden -/
def ExtX (K : ZK) (H : Hp) (M : MS) (K' : ZK) (H' : Hp) (M' : MS) : Prop := ∀ v d, Rel K H M v d → Rel K' H' M' v d
theorem ExtX.of (hT : ∀ p xs, SqT K.K H p xs → SqT K'.K H' p xs) (hF : FoExt K H M K' H' M') (hS : ∀ p xs, Sc K.K H p xs → Sc K'.K H' p xs) (hN : K'.K = K.K := by rfl) : ExtX K H M K' H' M' := fun v d h => Rel.mono hN hT (fun p o i _ s => hF p o i s) hS d v h
theorem ExtX.all (e : ExtX K H M K' H' M') : ∀ {ds : List D} {vs : List V}, RelA K H M vs ds → RelA K' H' M' vs ds
  | _, _, .nil => .nil
  | _, _, .cons a b => .cons (e _ _ a) (ExtX.all e b)
theorem Ext.x (e : Ext K H M H' M') : ExtX K H M K H' M' := e
theorem ExtX.trans {K2 : ZK} (a : ExtX K H M K' H1 M1) (b : ExtX K' H1 M1 K2 H2 M2) : ExtX K H M K2 H2 M2 := fun v d h => b v d (a v d h)
theorem Ext.le (l : Le M' M) : Ext K H M H M' := Ext.of (fun _ _ h => h) (fun _ _ _ h => h.le l) fun _ _ h => h

theorem RelA.length : ∀ {vs : List V} {ds : List D}, RelA K H M vs ds → vs.length = ds.length
  | _, _, .nil => rfl
  | _, _, .cons _ t => by rw [List.length_cons, List.length_cons, RelA.length t]
theorem RelA.get : ∀ {vs : List V} {ds : List D} {i : Nat} {d : D}, RelA K H M vs ds → ds[i]? = some d → ∃ v, vs[i]? = some v ∧ Rel K H M v d
  | _, _, _, _, .nil, e => by simp at e
  | _, _, 0, _, .cons r _, e => by simp at e; subst e; exact ⟨_, rfl, r⟩
  | _, _, i + 1, d, .cons _ t, e => by
    obtain ⟨u, h1, h2⟩ := RelA.get (i := i) (d := d) t (by simpa using e)
    exact ⟨u, by simpa using h1, h2⟩
theorem RelA.getV : ∀ {vs : List V} {ds : List D} {i : Nat} {v : V}, RelA K H M vs ds → vs[i]? = some v → ∃ d, ds[i]? = some d ∧ Rel K H M v d
  | _, _, _, _, .nil, e => by simp at e
  | _, _, 0, _, .cons r _, e => by simp at e; subst e; exact ⟨_, rfl, r⟩
  | _, _, i + 1, d, .cons _ t, e => by
    obtain ⟨u, h1, h2⟩ := RelA.getV (i := i) (v := d) t (by simpa using e)
    exact ⟨u, by simpa using h1, h2⟩
theorem RelA.append : ∀ {vs us : List V} {ds es : List D}, RelA K H M vs ds → RelA K H M us es → RelA K H M (vs ++ us) (ds ++ es)
  | _, _, _, _, .nil, s => s
  | _, _, _, _, .cons r t, s => .cons r (RelA.append t s)
theorem RelA.take : ∀ {vs : List V} {ds : List D} (n : Nat), RelA K H M vs ds → RelA K H M (vs.take n) (ds.take n)
  | _, _, 0, _ => .nil
  | _, _, _ + 1, .nil => .nil
  | _, _, n + 1, .cons r t => .cons r (RelA.take n t)
theorem RelA.drop : ∀ {vs : List V} {ds : List D} (n : Nat), RelA K H M vs ds → RelA K H M (vs.drop n) (ds.drop n)
  | _, _, 0, r => r
  | _, _, _ + 1, .nil => .nil
  | _, _, n + 1, .cons _ t => RelA.drop n t
theorem RelA.set {v : V} {d : D} (r : Rel K H M v d) : ∀ {vs : List V} {ds : List D} (i : Nat), RelA K H M vs ds → RelA K H M (vs.set i v) (ds.set i d)
  | _, _, _, .nil => .nil
  | _, _, 0, .cons _ t => .cons r t
  | _, _, i + 1, .cons q t => .cons q (RelA.set r i t)
theorem RelA.ints : ∀ {vs : List V} {ns : List Int}, RelA K H M vs (ns.map D.int) → vs = ns.map V.int
  | _, [], h => by cases h; rfl
  | _, n :: ns, h => by
    cases h with
    | cons a b => cases a; rw [RelA.ints b]; rfl
theorem relA_ints : ∀ {ns : List Int}, RelA K H M (ns.map V.int) (ns.map D.int)
  | [] => .nil
  | n :: ns => .cons (.int n) relA_ints
theorem RelA.bls : ∀ {vs : List V} {ns : List Bool}, RelA K H M vs (ns.map D.bl) → vs = ns.map V.bl
  | _, [], h => by cases h; rfl
  | _, n :: ns, h => by
    cases h with
    | cons a b => cases a; rw [RelA.bls b]; rfl

/-- pairs by keys -/
inductive RelK {κ : Type} (K : ZK) (H : Hp) (M : MS) : List (κ × V) → List (κ × D) → Prop
  | nil : RelK K H M [] []
  | cons {k : κ} {v : V} {d : D} {vs : List (κ × V)} {ds : List (κ × D)} : Rel K H M v d → RelK K H M vs ds → RelK K H M ((k, v) :: vs) ((k, d) :: ds)
theorem Ext.keys {κ : Type} (e : Ext K H M H' M') : ∀ {ds : List (κ × D)} {vs : List (κ × V)}, RelK K H M vs ds → RelK K H' M' vs ds
  | _, _, .nil => .nil
  | _, _, .cons a b => .cons (e _ _ a) (Ext.keys e b)

theorem ExtX.keys {κ : Type} (e : ExtX K H M K' H' M') : ∀ {ds : List (κ × D)} {vs : List (κ × V)}, RelK K H M vs ds → RelK K' H' M' vs ds
  | _, _, .nil => .nil
  | _, _, .cons a b => .cons (e _ _ a) (ExtX.keys e b)
/-! keys that are tuples of whole numbers -/
mutual
def nkN : PySem.NestedKey → Bool
  | .none => true
  | .num _ => true
  | .text _ => false
  | .tup ks => nkNs ks
def nkNs : List PySem.NestedKey → Bool
  | [] => true
  | k :: ks => nkN k && nkNs ks
end
mutual
/-- the hash, whatever the world -/
def hashN : PySem.NestedKey → Int
  | .none => reduceHash 0xFCA86420
  | .num i => hashInt i
  | .text _ => 0
  | .tup ks => reduceHash (Builtin.Tuple.tupleHashOf (hashNs ks))
def hashNs : List PySem.NestedKey → List Int
  | [] => []
  | k :: ks => hashN k :: hashNs ks
end
mutual
theorem hash_N (w : World) : ∀ k : PySem.NestedKey, nkN k = true → k.hash w = hashN k
  | .none, _ => by rw [PySem.NestedKey.hash, hashN]
  | .num i, _ => by rw [PySem.NestedKey.hash, hashN]
  | .text _, h => by cases h
  | .tup ks, h => by rw [PySem.NestedKey.hash, hashN, hash_Ns w ks h]
theorem hash_Ns (w : World) : ∀ ks : List PySem.NestedKey, nkNs ks = true → PySem.NestedKey.hashes w ks = hashNs ks
  | [], _ => by rw [PySem.NestedKey.hashes, hashNs]
  | k :: ks, h => by
    have h' : (nkN k && nkNs ks) = true := h
    rw [Bool.and_eq_true] at h'
    rw [PySem.NestedKey.hashes, hashNs, hash_N w k h'.1, hash_Ns w ks h'.2]
end
mutual
/-- the key as data -/
def kD : PySem.NestedKey → D
  | .none => .non
  | .num i => .int i
  | .text x => .str x
  | .tup ks => .tup (kDs ks)
def kDs : List PySem.NestedKey → List D
  | [] => []
  | k :: ks => kD k :: kDs ks
end
/-- at a stands a dict with these entries -/
def dnF (a : Addr) (xs : List (PySem.NestedKey × Addr × Value)) (h : Heap) : Prop :=
  (a == sysModules) = false ∧ xs.length ≤ sizeLine ∧ ∃ o es ep, h.get? a = some o ∧ o.ExactDict ∧ o.data = .dict es ep ∧ es.toList = xs.map (fun x => (⟨hashN x.1, .ref x.2.1, x.2.2⟩ : DictEntry)) ∧ (xs.map (·.1)).Nodup
def RelO (K : ZK) (H : Hp) (M : MS) (a : Addr) : MO → Prop
  | .lst ds => ∃ vs, H a = some (.lst vs) ∧ RelA K H M vs ds
  | .dk kvs => ∃ ws, H a = some (.dK ws) ∧ RelK K H M ws kvs
  | .dn kvs => ∃ (xs : List (PySem.NestedKey × Addr × Value)) (ws : List (PySem.NestedKey × V)), H a = some (.ext (dnF a xs)) ∧ Paired (fun p q => p.1 = q.1 ∧ RelV p.2 q.2.2) ws xs ∧
      (∀ q ∈ xs, (nkN q.1 = true ∧ q.1.depth ≤ 8) ∧ Rel K H M (.ref q.2.1) (kD q.1)) ∧ RelK K H M ws kvs
  | .ins C dx fs => ∃ gs, H a = some (.ins C dx gs) ∧ RelK K H M gs fs
  | .xd fs => ∃ gs, H a = some (.xd gs) ∧ RelK K H M gs fs
/-- the tables: each code object that they tell bears the name that its place has -/
def TabM [Tbs] (K : ZK) (H : Hp) (M : MS) : Prop := ∀ p ∈ Tbs.T, ∃ ps : Array Value, Fo K H M p.1 (.tbl ps) ∧ TriplesOk ps.toList ∧ ∀ (pos : Pos) (cv : Value), codeAmong pos ps.toList = some cv → ∃ c, cv = .ref c ∧ Fo K H M c (LamX.CodeO c (p.2 pos.line pos.col))
theorem TabM.mono [Tbs] {K K' : ZK} {H H' : Hp} {M M' : MS} (t : TabM K H M) (hF : FoExt K H M K' H' M') : TabM K' H' M' := fun p hp => by
  obtain ⟨ps, h1, h2, h3⟩ := t p hp
  refine ⟨ps, hF _ _ (.tbl _) h1, h2, fun pos cv hc => ?_⟩
  obtain ⟨c, e1, e2⟩ := h3 pos cv hc
  exact ⟨c, e1, hF _ _ (.ext _) e2⟩
variable [Tbs]
structure RelM (K : ZK) (H : Hp) (M : MS) : Prop where
  at' : ∀ a mo, M a = some mo → RelO K H M a mo
  hid : ∀ a u, K.hid a = some u → M a = none ∧ H a = some u.1
  tab : TabM K H M
theorem RelO.some {a : Addr} {mo : MO} (h : RelO K H M a mo) : ∃ o, H a = some o ∧ (∀ ob u, o ≠ .frz ob u) ∧ ∀ xs, o ≠ .tup xs := by
  cases mo with
  | lst ds => obtain ⟨vs, e, _⟩ := h; exact ⟨_, e, (fun _ _ z => nomatch z), fun _ z => nomatch z⟩
  | dk ds => obtain ⟨vs, e, _⟩ := h; exact ⟨_, e, (fun _ _ z => nomatch z), fun _ z => nomatch z⟩
  | dn ds => obtain ⟨_, vs, e, _⟩ := h; exact ⟨_, e, (fun _ _ z => nomatch z), fun _ z => nomatch z⟩
  | ins C dx fs => obtain ⟨vs, e, _⟩ := h; exact ⟨_, e, (fun _ _ z => nomatch z), fun _ z => nomatch z⟩
  | xd fs => obtain ⟨vs, e, _⟩ := h; exact ⟨_, e, (fun _ _ z => nomatch z), fun _ z => nomatch z⟩
theorem RelO.ext {a : Addr} {mo : MO} (h : RelO K H M a mo) (e : Ext K H M H' M') (k : H' a = H a) : RelO K H' M' a mo := by
  cases mo with
  | lst ds => obtain ⟨vs, q, r⟩ := h; exact ⟨vs, k.trans q, e.all r⟩
  | dk ds => obtain ⟨vs, q, r⟩ := h; exact ⟨vs, k.trans q, e.keys r⟩
  | dn ds => obtain ⟨xs, vs, q, r1, r2, r⟩ := h; exact ⟨xs, vs, k.trans q, r1, fun q hq => ⟨(r2 q hq).1, e _ _ (r2 q hq).2⟩, e.keys r⟩
  | ins C dx fs => obtain ⟨vs, q, r⟩ := h; exact ⟨vs, k.trans q, e.keys r⟩
  | xd fs => obtain ⟨vs, q, r⟩ := h; exact ⟨vs, k.trans q, e.keys r⟩
theorem RelO.extX {a : Addr} {mo : MO} (h : RelO K H M a mo) (e : ExtX K H M K' H' M') (k : H' a = H a) : RelO K' H' M' a mo := by
  cases mo with
  | lst ds => obtain ⟨vs, q, r⟩ := h; exact ⟨vs, k.trans q, e.all r⟩
  | dk ds => obtain ⟨vs, q, r⟩ := h; exact ⟨vs, k.trans q, e.keys r⟩
  | dn ds => obtain ⟨xs, vs, q, r1, r2, r⟩ := h; exact ⟨xs, vs, k.trans q, r1, fun q hq => ⟨(r2 q hq).1, e _ _ (r2 q hq).2⟩, e.keys r⟩
  | ins C dx fs => obtain ⟨vs, q, r⟩ := h; exact ⟨vs, k.trans q, e.keys r⟩
  | xd fs => obtain ⟨vs, q, r⟩ := h; exact ⟨vs, k.trans q, e.keys r⟩
theorem RelM.free (m : RelM K H M) {p : Addr} (h : H p = none) : M p = none := by
  cases q : M p with
  | none => rfl
  | some mo =>
    obtain ⟨o, e, _⟩ := (m.at' p mo q).some
    rw [h] at e; cases e
theorem RelM.le (m : RelM K H M) (l : Le M' M) : RelM K H M' := by
  refine ⟨fun a mo e => (m.at' a mo (l a mo e)).ext (Ext.le l) rfl, fun a vs e => ⟨?_, (m.hid a vs e).2⟩, m.tab.mono fun _ _ _ h => h.le l⟩
  cases q : M' a with
  | none => rfl
  | some u =>
    have z := l a u q
    rw [(m.hid a vs e).1] at z; cases z
theorem RelM.freeH (m : RelM K H M) {p : Addr} (h : H p = none) : K.hid p = none := by
  cases q : K.hid p with
  | none => rfl
  | some vs =>
    have z := (m.hid p vs q).2
    rw [h] at z; cases z

theorem sqT_upd {p q : Addr} {o : HO} {xs : List V} (h : SqT K.K H q xs) (n : H p = none ∨ ∃ u, H p = some u ∧ ∀ ys, u ≠ .tup ys ∧ ∀ ob, u ≠ .frz ob (.tup ys)) : SqT K.K (upd H p o) q xs := by
  rcases h with (h | ⟨ob, h⟩) | h
  · refine .inl (.inl ?_)
    rw [upd_ne]
    · exact h
    · rintro rfl
      rcases n with n | ⟨u, n, z⟩
      · rw [h] at n; cases n
      · rw [h] at n; cases n; exact (z xs).1 rfl
  · refine .inl (.inr ⟨ob, ?_⟩)
    rw [upd_ne]
    · exact h
    · rintro rfl
      rcases n with n | ⟨u, n, z⟩
      · rw [h] at n; cases n
      · rw [h] at n; cases n; exact (z xs).2 ob rfl
  · exact .inr h
/-- a new object that the store doesn't name -/
theorem sc_upd {p q : Addr} {o : HO} {xs : List V} (h : Sc K.K H q xs) (n : H p = none ∨ ∃ u, H p = some u ∧ ∀ ys ob, u ≠ .frz ob (.lst ys)) : Sc K.K (upd H p o) q xs := by
  rcases h with ⟨ob, h⟩ | h
  · refine .inl ⟨ob, ?_⟩
    rw [upd_ne]
    · exact h
    · rintro rfl
      rcases n with n | ⟨u, n, z⟩
      · rw [h] at n; cases n
      · rw [h] at n; cases n; exact z xs ob rfl
  · exact .inr h
theorem fo_new {p : Addr} {o : HO} (h : H p = none) : FoExt K H M K (upd H p o) M := fun q u _ s => ⟨s.1, by rw [upd_ne (ne_of_none s.2 h)]; exact s.2⟩
theorem ext_new (m : RelM K H M) {p : Addr} {o : HO} (h : H p = none) : Ext K H M (upd H p o) M :=
  Ext.of (fun q xs s => sqT_upd s (.inl h)) (fo_new h) fun q xs s => sc_upd s (.inl h)
theorem relM_new (m : RelM K H M) {p : Addr} {o : HO} (h : H p = none) : RelM K (upd H p o) M := by
  refine ⟨fun a mo e => ?_, fun a vs e => ⟨(m.hid a vs e).1, ?_⟩, m.tab.mono (fo_new h)⟩
  · obtain ⟨u, q, _⟩ := (m.at' a mo e).some
    exact (m.at' a mo e).ext (ext_new m h) (upd_ne (ne_of_none q h))
  · have q := (m.hid a vs e).2
    rw [upd_ne (ne_of_none q h)]
    exact q
/-- a new object that the store names -/
theorem fo_alloc {p : Addr} {o : HO} {mo : MO} (h : H p = none) : FoExt K H M K (upd H p o) (um M p mo) := fun q u _ s => ⟨⟨by rw [um_ne (ne_of_none s.2 h)]; exact s.1.1, s.1.2⟩, by rw [upd_ne (ne_of_none s.2 h)]; exact s.2⟩
theorem ext_alloc (m : RelM K H M) {p : Addr} {o : HO} {mo : MO} (h : H p = none) : Ext K H M (upd H p o) (um M p mo) :=
  Ext.of (fun q xs s => sqT_upd s (.inl h)) (fo_alloc h) fun q xs s => sc_upd s (.inl h)
theorem relM_alloc (m : RelM K H M) {p : Addr} {o : HO} {mo : MO} (h : H p = none) (r : RelO K (upd H p o) (um M p mo) p mo) : RelM K (upd H p o) (um M p mo) := by
  refine ⟨fun a u e => ?_, fun a vs e => ?_, m.tab.mono (fo_alloc h)⟩
  · by_cases ha : a = p
    · subst ha; rw [um_same] at e; cases e; exact r
    · rw [um_ne ha] at e
      exact (m.at' a u e).ext (ext_alloc m h) (upd_ne ha)
  · obtain ⟨q1, q2⟩ := m.hid a vs e
    have ne := ne_of_none q2 h
    exact ⟨by rw [um_ne ne]; exact q1, by rw [upd_ne ne]; exact q2⟩
/-- an object of the store is changed -/
theorem fo_write {p : Addr} {o : HO} {mo mu : MO} (h : M p = some mu) : FoExt K H M K (upd H p o) (um M p mo) := fun q u _ s => by
  have hq : q ≠ p := fun z => by have n := s.1.1; rw [z, h] at n; cases n
  exact ⟨⟨by rw [um_ne hq]; exact s.1.1, s.1.2⟩, by rw [upd_ne hq]; exact s.2⟩
theorem ext_write (m : RelM K H M) {p : Addr} {o : HO} {mo mu : MO} (h : M p = some mu) : Ext K H M (upd H p o) (um M p mo) := by
  obtain ⟨u, e, mt, nt⟩ := (m.at' p mu h).some
  exact Ext.of (fun q xs s => sqT_upd s (.inr ⟨u, e, fun ys => ⟨nt ys, fun ob z => mt ob _ z⟩⟩)) (fo_write h) fun q xs s => sc_upd s (.inr ⟨u, e, fun ys ob z => mt ob _ z⟩)
theorem relM_write (m : RelM K H M) {p : Addr} {o : HO} {mo mu : MO} (h : M p = some mu) (r : RelO K (upd H p o) (um M p mo) p mo) : RelM K (upd H p o) (um M p mo) := by
  refine ⟨fun a u e => ?_, fun a vs e => ?_, m.tab.mono (fo_write h)⟩
  · by_cases ha : a = p
    · subst ha; rw [um_same] at e; cases e; exact r
    · rw [um_ne ha] at e
      exact (m.at' a u e).ext (ext_write m h) (upd_ne ha)
  · obtain ⟨q1, q2⟩ := m.hid a vs e
    have ne : a ≠ p := fun z => by rw [z, h] at q1; cases q1
    exact ⟨by rw [um_ne ne]; exact q1, by rw [upd_ne ne]; exact q2⟩

/-! ### slots -/
abbrev Sl := List (Option D)
def RelS (K : ZK) (H : Hp) (M : MS) (σ : St) (ρ : Sl) : Prop := σ.length = ρ.length ∧ ∀ (i : Nat) (d : D), ρ[i]? = some (some d) → ∃ v, σ[i]? = some (some v) ∧ Rel K H M v d
theorem RelS.ext {σ : St} {ρ : Sl} (r : RelS K H M σ ρ) (e : Ext K H M H' M') : RelS K H' M' σ ρ := ⟨r.1, fun i d h => by
  obtain ⟨v, a, b⟩ := r.2 i d h
  exact ⟨v, a, e _ _ b⟩⟩
theorem RelS.extX {σ : St} {ρ : Sl} (r : RelS K H M σ ρ) (e : ExtX K H M K' H' M') : RelS K' H' M' σ ρ := ⟨r.1, fun i d h => by
  obtain ⟨v, a, b⟩ := r.2 i d h
  exact ⟨v, a, e _ _ b⟩⟩
theorem RelS.set {σ : St} {ρ : Sl} (r : RelS K H M σ ρ) {v : V} {d : D} (i : Nat) (h : Rel K H M v d) : RelS K H M (σ.set i (some v)) (ρ.set i (some d)) := by
  refine ⟨by rw [List.length_set, List.length_set]; exact r.1, fun j e he => ?_⟩
  by_cases hj : i = j
  · subst hj
    have hi : i < ρ.length := by
      have := (List.getElem?_eq_some_iff.mp he).1
      simpa using this
    rw [List.getElem?_set_self hi] at he
    cases he
    exact ⟨v, List.getElem?_set_self (by rw [r.1]; exact hi), h⟩
  · rw [List.getElem?_set_ne hj] at he
    rw [List.getElem?_set_ne hj]
    exact r.2 j e he
theorem RelS.clear {σ : St} {ρ : Sl} (r : RelS K H M σ ρ) (i : Nat) : RelS K H M (σ.set i none) (ρ.set i none) := by
  refine ⟨by rw [List.length_set, List.length_set]; exact r.1, fun j e he => ?_⟩
  by_cases hj : i = j
  · subst hj
    have hi : i < ρ.length := by
      have := (List.getElem?_eq_some_iff.mp he).1
      simpa using this
    rw [List.getElem?_set_self hi] at he
    cases he
  · rw [List.getElem?_set_ne hj] at he
    rw [List.getElem?_set_ne hj]
    exact r.2 j e he
def wipeD (ρ : Sl) : List Nat → Sl
  | [] => ρ
  | v :: vs => (wipeD ρ vs).set v none
theorem RelS.wipe {σ : St} {ρ : Sl} (r : RelS K H M σ ρ) : ∀ vs : List Nat, RelS K H M (L2.wipe σ vs) (wipeD ρ vs)
  | [] => r
  | v :: vs => (RelS.wipe r vs).clear v
def startD : List Str → List D → Sl
  | [], _ => []
  | _ :: N, d :: ds => some d :: startD N ds
  | _ :: N, [] => none :: startD N []
theorem startD_at : ∀ {N : List Str} {ds : List D} {i : Nat} {d : D}, (startD N ds)[i]? = some (some d) → ds[i]? = some d
  | [], _, _, _, h => by simp [startD] at h
  | _ :: N, d :: ds, 0, e, h => by simp [startD] at h; simp [h]
  | _ :: N, d :: ds, i + 1, e, h => by simp [startD] at h; simpa using startD_at h
  | _ :: N, [], 0, e, h => by simp [startD] at h
  | _ :: N, [], i + 1, e, h => by simp [startD] at h; simpa using startD_at h
theorem startD_len : ∀ (N : List Str) (ds : List D), (startD N ds).length = N.length
  | [], _ => rfl
  | _ :: N, d :: ds => by simp [startD, startD_len N ds]
  | _ :: N, [] => by simp [startD, startD_len N []]
theorem relS_start {N : List Str} {vs : List V} {ds : List D} (r : RelA K H M vs ds) (hl : ds.length ≤ N.length) : RelS K H M (start N vs) (startD N ds) := by
  have q := r.length
  refine ⟨by rw [startD_len]; unfold start; simp; omega, fun i d h => ?_⟩
  have e := startD_at h
  obtain ⟨v, a, b⟩ := r.get e
  refine ⟨v, ?_, b⟩
  unfold start
  rw [List.getElem?_append_left (by simpa using (List.getElem?_eq_some_iff.mp a).1), List.getElem?_map, a]
  rfl
/-! ### what is raised -/
structure Ex where
  C : Str
  fs : List (Str × D)
def RelX (K : ZK) (H : Hp) (M : MS) (cls : Value) (d : Option Addr) (x : Ex) : Prop :=
  (∃ aC, cls = .ref aC ∧ PySem.W.nsIn K.K mainGlobals x.C = some (some (.ref aC))) ∧ ∃ dx gs, d = some dx ∧ H dx = some (.xd gs) ∧ M dx = none ∧ RelK K H M gs x.fs
end
end L2.DL
/-! DLb: the judgements over data, expressions -/
namespace L2.DL
open PySem PySem.Spec PyProof.Rows
variable [Tbs]

abbrev PD := D → MS → Prop
abbrev XP := Ex → Sl → MS → Prop
abbrev DTE := Sl → PD → XP → MS → Prop
abbrev DTT := Sl → (Bool → MS → Prop) → XP → MS → Prop
abbrev DTA := Sl → (List D → MS → Prop) → XP → MS → Prop
abbrev DTO := Sl → (Option Int → MS → Prop) → XP → MS → Prop
structure DEnds where
  nx : Sl → MS → Prop
  rt : PD
  bk : Sl → MS → Prop := fun _ _ => False
  ct : Sl → MS → Prop := fun _ _ => False
  ex : XP := fun _ _ _ => False
abbrev DTS := DEnds → Sl → MS → Prop

section
variable (K : ZK)
def XOk (H : Hp) (M : MS) (W : WX) (E : XP) : Prop := ∀ x ρ' M' cls d σ' H', E x ρ' M' → RelM K H' M' → RelS K H' M' σ' ρ' → RelX K H' M' cls d x → Ext K H M H' M' → W cls d σ' H'
def Cont (H : Hp) (M : MS) (R : PD) (Q : VK) : Prop := ∀ d M' v H', R d M' → RelM K H' M' → Rel K H' M' v d → Ext K H M H' M' → Q v H'
structure LS (W : WX) (De : Ends) (Dd : DEnds) (H : Hp) (M : MS) : Prop where
  nx : ∀ ρ' M' σ' H', Dd.nx ρ' M' → RelM K H' M' → RelS K H' M' σ' ρ' → Ext K H M H' M' → De.nx σ' H'
  rt : Cont K H M Dd.rt De.rt
  bk : ∀ ρ' M' σ' H', Dd.bk ρ' M' → RelM K H' M' → RelS K H' M' σ' ρ' → Ext K H M H' M' → De.bk σ' H'
  ct : ∀ ρ' M' σ' H', Dd.ct ρ' M' → RelM K H' M' → RelS K H' M' σ' ρ' → Ext K H M H' M' → De.ct σ' H'
  ex : XOk K H M W Dd.ex
end
abbrev Hd := Addr → Option FO
section
variable (F : PySem.W.Frag)
def lift (W : WX) (t : DTE) : TE := fun σ H Q => ∃ (z : Hd) (ρ : Sl) (M : MS) (R : PD) (E : XP), RelS ⟨F, z⟩ H M σ ρ ∧ RelM ⟨F, z⟩ H M ∧ t ρ R E M ∧ Cont ⟨F, z⟩ H M R Q ∧ XOk ⟨F, z⟩ H M W E
def liftT (W : WX) (t : DTT) : TT := fun σ H Q => ∃ (z : Hd) (ρ : Sl) (M : MS) (R : Bool → MS → Prop) (E : XP), RelS ⟨F, z⟩ H M σ ρ ∧ RelM ⟨F, z⟩ H M ∧ t ρ R E M ∧ (∀ b M' H', R b M' → RelM ⟨F, z⟩ H' M' → Ext ⟨F, z⟩ H M H' M' → Q b H') ∧ XOk ⟨F, z⟩ H M W E
def liftA (W : WX) (t : DTA) : TA := fun σ H Q => ∃ (z : Hd) (ρ : Sl) (M : MS) (R : List D → MS → Prop) (E : XP), RelS ⟨F, z⟩ H M σ ρ ∧ RelM ⟨F, z⟩ H M ∧ t ρ R E M ∧ (∀ ds M' vs H', R ds M' → RelM ⟨F, z⟩ H' M' → RelA ⟨F, z⟩ H' M' vs ds → Ext ⟨F, z⟩ H M H' M' → Q vs H') ∧ XOk ⟨F, z⟩ H M W E
def liftO (W : WX) (t : DTO) : TO := fun σ H Q => ∃ (z : Hd) (ρ : Sl) (M : MS) (R : Option Int → MS → Prop) (E : XP), RelS ⟨F, z⟩ H M σ ρ ∧ RelM ⟨F, z⟩ H M ∧ t ρ R E M ∧ (∀ o M' H', R o M' → RelM ⟨F, z⟩ H' M' → Ext ⟨F, z⟩ H M H' M' → Q o H') ∧ XOk ⟨F, z⟩ H M W E
def liftS (W : WX) (t : DTS) : TS := fun De σ H => ∃ (z : Hd) (ρ : Sl) (M : MS) (Dd : DEnds), RelS ⟨F, z⟩ H M σ ρ ∧ RelM ⟨F, z⟩ H M ∧ t Dd ρ M ∧ LS ⟨F, z⟩ W De Dd H M
end
section
variable {K : ZK} {H H' : Hp} {M M' : MS} {W : WX} {E : XP} {R : PD} {Q : VK}
theorem XOk.ext (h : XOk K H M W E) (e : Ext K H M H' M') : XOk K H' M' W E := fun x ρ' M2 cls d σ' H2 a b c r f => h x ρ' M2 cls d σ' H2 a b c r (e.trans f)
theorem Cont.ext (h : Cont K H M R Q) (e : Ext K H M H' M') : Cont K H' M' R Q := fun d M2 v H2 a b c f => h d M2 v H2 a b c (e.trans f)
theorem LS.ext {De : Ends} {Dd : DEnds} (h : LS K W De Dd H M) (e : Ext K H M H' M') : LS K W De Dd H' M' :=
  ⟨fun a b c d p q r f => h.nx a b c d p q r (e.trans f), h.rt.ext e, fun a b c d p q r f => h.bk a b c d p q r (e.trans f), fun a b c d p q r f => h.ct a b c d p q r (e.trans f), h.ex.ext e⟩
theorem Cont.here (h : Cont K H M R Q) {d : D} {v : V} (r : R d M) (m : RelM K H M) (q : Rel K H M v d) : Q v H := h d M v H r m q Ext.refl
end

abbrev DE (X : Cx) (W : WX) (e : Expr) (t : DTE) : Prop := PE X e (lift X.K W t)
abbrev DT (X : Cx) (W : WX) (e : Expr) (t : DTT) : Prop := PT X e (liftT X.K W t)
abbrev DW (X : Cx) (W : WX) (e : Expr) (t : DTT) : Prop := PW X e (liftT X.K W t)
abbrev DA (X : Cx) (W : WX) (es : List Expr) (t : DTA) : Prop := PA X es (liftA X.K W t)
abbrev DO (X : Cx) (W : WX) (e : Option Expr) (t : DTO) : Prop := PO X e (liftO X.K W t)
abbrev DS (X : Cx) (W : WX) (st : Stmt) (t : DTS) : Prop := PS X st (liftS X.K W t)
abbrev DSs (X : Cx) (W : WX) (sts : List Stmt) (t : DTS) : Prop := PSs X sts (liftS X.K W t)

theorem imp {X : Cx} {e : Expr} {t u : TE} (h : PE X e t) (hi : ∀ σ H Q, u σ H Q → t σ H Q) : PE X e u := ⟨fun pins s σ H Q I q => h.run pins s σ H Q I (hi σ H Q q)⟩
theorem impT {X : Cx} {e : Expr} {t u : TT} (h : PT X e t) (hi : ∀ σ H Q, u σ H Q → t σ H Q) : PT X e u := ⟨fun pins s σ H Q I q => h.run pins s σ H Q I (hi σ H Q q)⟩
theorem impW {X : Cx} {e : Expr} {t u : TT} (h : PW X e t) (hi : ∀ σ H Q, u σ H Q → t σ H Q) : PW X e u := ⟨fun w pins s σ H Q I q => h.run w pins s σ H Q I (hi σ H Q q)⟩
theorem impA {X : Cx} {e : List Expr} {t u : TA} (h : PA X e t) (hi : ∀ σ H Q, u σ H Q → t σ H Q) : PA X e u := ⟨fun pos pins s σ H Q I q => h.run pos pins s σ H Q I (hi σ H Q q)⟩
theorem impO {X : Cx} {e : Option Expr} {t u : TO} (h : PO X e t) (hi : ∀ σ H Q, u σ H Q → t σ H Q) : PO X e u := ⟨fun pins s σ H Q I q => h.run pins s σ H Q I (hi σ H Q q)⟩
theorem impS {X : Cx} {e : Stmt} {t u : TS} (h : PS X e t) (hi : ∀ D σ H, u D σ H → t D σ H) : PS X e u := ⟨fun pins s σ H Q I q => h.run pins s σ H Q I (hi Q σ H q)⟩
theorem impSs {X : Cx} {e : List Stmt} {t u : TS} (h : PSs X e t) (hi : ∀ D σ H, u D σ H → t D σ H) : PSs X e u := ⟨fun pins s σ H Q I q => h.run pins s σ H Q I (hi Q σ H q)⟩

/-- the i-th slot -/
def sl : Sl → Nat → Option D
  | [], _ => none
  | x :: _, 0 => x
  | _ :: r, n + 1 => sl r n
theorem sl_get : ∀ {ρ : Sl} {i : Nat} {d : D}, sl ρ i = some d → ρ[i]? = some (some d)
  | [], i, d, h => by cases h
  | x :: r, 0, d, h => by have h' : x = some d := h; subst h'; rfl
  | x :: r, n + 1, d, h => by have h' : sl r n = some d := h; simpa using sl_get h'

section
variable {X : Cx} {W : WX} {a b c e : Expr} {ta tb tc te : DTE} {tA tB : DTT} {pos : Pos}

/-! ### names, constants -/
def dVar (i : Nat) : DTE := fun ρ R _ M => match sl ρ i with | some d => R d M | none => False
def dC (d : D) : DTE := fun _ R _ M => R d M
theorem de_var (i : Nat) {x : Str} {pos : Pos} (hN : X.N[i]? = some x := by rfl) (hv : Vis X.env.scope x := by first | exact Or.inl rfl | exact Or.inr (Or.inl rfl) | exact Or.inr (Or.inr rfl)) (hd : (x == ("__debug__" : Str)) = false := by decide)
    (hcd : (x == ("__classdict__" : Str)) = false := by decide) : DE X W (.Name x pos) (dVar i) :=
  imp (pe_var hN hv hd hcd) fun σ H Q ⟨z, ρ, M, R, E, hs, hm, h, hc, _⟩ => by
    unfold dVar at h
    cases q : sl ρ i with
    | none => rw [q] at h; exact h.elim
    | some d =>
      rw [q] at h
      obtain ⟨v, e1, r⟩ := hs.2 i d (sl_get q)
      exact ⟨v, e1, hc.here h hm r⟩
theorem de_c {d : D} {v : V} (h : PE X e (tC v)) (hr : ∀ z H M, Rel ⟨X.K, z⟩ H M v d) : DE X W e (dC d) :=
  imp h fun σ H Q ⟨z, ρ, M, R, E, hs, hm, h, hc, _⟩ => hc.here h hm (hr z H M)
theorem de_int {i j pos} : DE X W (.Constant (.int i) j pos) (dC (.int i)) := de_c pe_int fun _ _ _ => .int _
theorem de_bl {i j pos} : DE X W (.Constant (.bool i) j pos) (dC (.bl i)) := de_c pe_bl fun _ _ _ => .bl _
theorem de_non {j pos} : DE X W (.Constant .none j pos) (dC .non) := de_c pe_non fun _ _ _ => .non
theorem de_str {x j pos} : DE X W (.Constant (.str x) j pos) (dC (.str x)) := de_c pe_str fun _ _ _ => .str _
/-- a def, a class of the text by its name, as a value -/
theorem de_glob {x : Str} {f : Addr} {pos : Pos} (hm : X.mg x = some (.ref f)) (hg : Gl X x := by rfl) (hd : (x == ("__debug__" : Str)) = false := by decide) : DE X W (.Name x pos) (dC (.ref f)) :=
  de_c (v := .ref f) (pe_glob (v := .ref f) hg hm rfl hd) fun _ _ _ => .ref _

/-! ### argument lists, displays -/
def dNil : DTA := fun _ R _ M => R [] M
def dCons (ta : DTE) (tr : DTA) : DTA := fun ρ R E M => ta ρ (fun x M1 => tr ρ (fun xs M2 => R (x :: xs) M2) E M1) E M
theorem da_nil : DA X W [] dNil := impA pa_nil fun σ H Q ⟨z, ρ, M, R, E, hs, hm, h, hc, _⟩ => hc _ _ _ _ h hm .nil Ext.refl
theorem da_cons {es : List Expr} {t : DTA} (ha : DE X W e te) (hr : DA X W es t) (hs : starEach (e :: es) X.env = (false, eval e X.env) :: starEach es X.env := by rfl) : DA X W (e :: es) (dCons te t) :=
  impA (pa_cons ha hr hs) fun σ H Q ⟨z, ρ, M, R, E, hs, hm, h, hc, hE⟩ =>
    ⟨z, ρ, M, _, E, hs, hm, h, fun x M1 v H1 h1 m1 r1 e1 => ⟨z, ρ, M1, _, E, hs.ext e1, m1, h1, fun ds M2 vs H2 h2 m2 r2 e2 => hc _ _ _ _ h2 m2 (.cons (e2 _ _ r1) r2) (e1.trans e2), hE.ext e1⟩, hE⟩
def dTup (t : DTA) : DTE := fun ρ R E M => t ρ (fun ds M1 => ds.length ≤ sizeLine ∧ R (.tup ds) M1) E M
theorem de_tup {es : List Expr} {x1} {t : DTA} (h : DA X W es t) : DE X W (.Tuple es x1 pos) (dTup t) :=
  imp (pe_tup h) fun σ H Q ⟨z, ρ, M, R, E, hs, hm, h, hc, hE⟩ =>
    ⟨z, ρ, M, _, E, hs, hm, h, fun ds M1 vs H1 h1 m1 r1 e1 => ⟨by rw [r1.length]; exact h1.1, fun p hp =>
      hc _ _ _ _ h1.2 (relM_new m1 hp) (.tup (SqT.of upd_same) ((ext_new m1 hp).all r1)) (e1.trans (ext_new m1 hp))⟩, hE⟩
/-- a list that nobody changes -/
def dLst (t : DTA) : DTE := fun ρ R E M => t ρ (fun ds M1 => ds.length ≤ sizeLine ∧ R (.lst ds) M1) E M
theorem fz_new {K : ZK} {H : Hp} {M : MS} {p : Addr} {vs : List V} (m : RelM K H M) (hp : H p = none) : Fz K (upd H p (.lst vs)) M p vs := ⟨⟨m.free hp, m.freeH hp⟩, upd_same⟩
theorem de_lst {es : List Expr} {t : DTA} (h : DA X W es t) : DE X W (.List es pos) (dLst t) :=
  imp (pe_lst h) fun σ H Q ⟨z, ρ, M, R, E, hs, hm, h, hc, hE⟩ =>
    ⟨z, ρ, M, _, E, hs, hm, h, fun ds M1 vs H1 h1 m1 r1 e1 => ⟨by rw [r1.length]; exact h1.1, fun p hp =>
      hc _ _ _ _ h1.2 (relM_new m1 hp) (.lst (fz_new m1 hp) ((ext_new m1 hp).all r1)) (e1.trans (ext_new m1 hp))⟩, hE⟩
/-- a new list of the store -/
def dLstN (t : DTA) : DTE := fun ρ R E M => t ρ (fun ds M1 => ds.length ≤ sizeLine ∧ ∀ p, M1 p = none → R (.ref p) (um M1 p (.lst ds))) E M
theorem alloc_lst {K : ZK} {H : Hp} {M : MS} {p : Addr} {vs : List V} {ds : List D} (m : RelM K H M) (hp : H p = none) (r : RelA K H M vs ds) : RelM K (upd H p (.lst vs)) (um M p (.lst ds)) :=
  relM_alloc m hp ⟨vs, upd_same, (ext_alloc m hp).all r⟩
theorem de_lstN {es : List Expr} {t : DTA} (h : DA X W es t) : DE X W (.List es pos) (dLstN t) :=
  imp (pe_lst h) fun σ H Q ⟨z, ρ, M, R, E, hs, hm, h, hc, hE⟩ =>
    ⟨z, ρ, M, _, E, hs, hm, h, fun ds M1 vs H1 h1 m1 r1 e1 => ⟨by rw [r1.length]; exact h1.1, fun p hp =>
      hc _ _ _ _ (h1.2 p (m1.free hp)) (alloc_lst m1 hp r1) (.ref p) (e1.trans (ext_alloc m1 hp))⟩, hE⟩

/-! ### operations of two values -/
def OpD (X : Cx) (fop : Value → Value → Sem Value) (f : D → D → PD → MS → Prop) : Prop :=
  ∃ r, OpR X fop r ∧ ∀ z H M x y vx vy R Q, RelM ⟨X.K, z⟩ H M → Rel ⟨X.K, z⟩ H M vx x → Rel ⟨X.K, z⟩ H M vy y → f x y R M → Cont ⟨X.K, z⟩ H M R Q → r vx vy H Q
def dOp (f : D → D → PD → MS → Prop) (ta tb : DTE) : DTE := fun ρ R E M => ta ρ (fun x M1 => tb ρ (fun y M2 => f x y R M2) E M1) E M
theorem de_op {op : Operator} {f : D → D → PD → MS → Prop} (o : OpD X (binaryOp op) f) (ha : DE X W a ta) (hb : DE X W b tb) : DE X W (.BinOp a op b pos) (dOp f ta tb) := by
  obtain ⟨r, ho, ad⟩ := o
  exact imp (pe_op ho ha hb) fun σ H Q ⟨z, ρ, M, R, E, hs, hm, h, hc, hE⟩ =>
    ⟨z, ρ, M, _, E, hs, hm, h, fun x M1 vx H1 h1 m1 r1 e1 => ⟨z, ρ, M1, _, E, hs.ext e1, m1, h1, fun y M2 vy H2 h2 m2 r2 e2 => ad _ _ _ _ _ _ _ _ _ m2 (e2 _ _ r1) r2 h2 (hc.ext (e1.trans e2)), hE.ext e1⟩, hE⟩
theorem de_cmp {op : CmpOp} {f : D → D → PD → MS → Prop} (o : OpD X (compareOp op) f) (ha : DE X W a ta) (hb : DE X W b tb) (hm : behindInMarks op b = false := by first | exact nomark _ | rfl) : DE X W (.Compare a [op] [b] pos) (dOp f ta tb) := by
  obtain ⟨r, ho, ad⟩ := o
  exact imp (pe_cmpR ho ha hb hm) fun σ H Q ⟨z, ρ, M, R, E, hs, hm, h, hc, hE⟩ =>
    ⟨z, ρ, M, _, E, hs, hm, h, fun x M1 vx H1 h1 m1 r1 e1 => ⟨z, ρ, M1, _, E, hs.ext e1, m1, h1, fun y M2 vy H2 h2 m2 r2 e2 => ad _ _ _ _ _ _ _ _ _ m2 (e2 _ _ r1) r2 h2 (hc.ext (e1.trans e2)), hE.ext e1⟩, hE⟩
/-- a test that gives True or False -/
def dTst (t : DTE) : DTT := fun ρ R E M => t ρ (fun d M1 => match d with | .bl k => R k M1 | _ => False) E M
theorem dt_cmp {op : CmpOp} {f : D → D → PD → MS → Prop} (o : OpD X (compareOp op) f) (ha : DE X W a ta) (hb : DE X W b tb) (hm : behindInMarks op b = false := by first | exact nomark _ | rfl) : DT X W (.Compare a [op] [b] pos) (dTst (dOp f ta tb)) := by
  obtain ⟨r, ho, ad⟩ := o
  exact impT (pt_cmpR ho ha hb hm) fun σ H Q ⟨z, ρ, M, R, E, hs, hm, h, hc, hE⟩ =>
    ⟨z, ρ, M, _, E, hs, hm, h, fun x M1 vx H1 h1 m1 r1 e1 => ⟨z, ρ, M1, _, E, hs.ext e1, m1, h1, fun y M2 vy H2 h2 m2 r2 e2 => ad _ _ _ _ _ _ _ _ _ m2 (e2 _ _ r1) r2 h2 (fun d M3 v H3 h3 m3 r3 e3 => by
      cases d with
      | bl k => cases r3; exact ⟨k, rfl, hc _ _ _ h3 m3 (e1.trans (e2.trans e3))⟩
      | _ => exact h3.elim), hE.ext e1⟩, hE⟩
def dChain (f g : D → D → PD → MS → Prop) (ta tb tc : DTE) : DTE := fun ρ R E M => ta ρ (fun x M1 => tb ρ (fun y M2 => f x y (fun z M3 => match z with
  | .bl k => if k = true then tc ρ (fun w M4 => g y w R M4) E M3 else R (.bl false) M3
  | _ => False) M2) E M1) E M
theorem de_chain {op op' : CmpOp} {f g : D → D → PD → MS → Prop} (o : OpD X (compareOp op) f) (o' : OpD X (compareOp op') g) (ha : DE X W a ta) (hb : DE X W b tb) (hc : DE X W c tc)
    (hm : lastMarks [op, op'] [b, c] = false := by with_unfolding_all rfl) : DE X W (.Compare a [op, op'] [b, c] pos) (dChain f g ta tb tc) := by
  obtain ⟨r, ho, ad⟩ := o
  obtain ⟨r', ho', ad'⟩ := o'
  exact imp (pe_chain ho ho' ha hb hc hm) fun σ H Q ⟨z, ρ, M, R, E, hs, hm, h, hk, hE⟩ =>
    ⟨z, ρ, M, _, E, hs, hm, h, fun x M1 vx H1 h1 m1 r1 e1 => ⟨z, ρ, M1, _, E, hs.ext e1, m1, h1, fun y M2 vy H2 h2 m2 r2 e2 => ad _ _ _ _ _ _ _ _ _ m2 (e2 _ _ r1) r2 h2 (fun d M3 v H3 h3 m3 r3 e3 => by
      cases d with
      | bl k =>
        cases r3
        refine ⟨k, rfl, ?_⟩
        cases k with
        | true => exact iteT ⟨z, ρ, M3, _, E, hs.ext (e1.trans (e2.trans e3)), m3, h3, fun w M4 vw H4 h4 m4 r4 e4 => ad' _ _ _ _ _ _ _ _ _ m4 ((e3.trans e4) _ _ r2) r4 h4 (hk.ext (e1.trans (e2.trans (e3.trans e4)))), hE.ext (e1.trans (e2.trans e3))⟩
        | false => exact iteF (hk _ _ _ _ h3 m3 (.bl _) (e1.trans (e2.trans e3)))
      | _ => exact h3.elim), hE.ext e1⟩, hE⟩
theorem dt_chain {op op' : CmpOp} {f g : D → D → PD → MS → Prop} (o : OpD X (compareOp op) f) (o' : OpD X (compareOp op') g) (ha : DE X W a ta) (hb : DE X W b tb) (hc : DE X W c tc)
    (hm : lastMarks [op, op'] [b, c] = false := by with_unfolding_all rfl) : DT X W (.Compare a [op, op'] [b, c] pos) (dTst (dChain f g ta tb tc)) := by
  obtain ⟨r, ho, ad⟩ := o
  obtain ⟨r', ho', ad'⟩ := o'
  exact impT (pt_chain ho ho' ha hb hc hm) fun σ H Q ⟨z, ρ, M, R, E, hs, hm, h, hk, hE⟩ =>
    ⟨z, ρ, M, _, E, hs, hm, h, fun x M1 vx H1 h1 m1 r1 e1 => ⟨z, ρ, M1, _, E, hs.ext e1, m1, h1, fun y M2 vy H2 h2 m2 r2 e2 => ad _ _ _ _ _ _ _ _ _ m2 (e2 _ _ r1) r2 h2 (fun d M3 v H3 h3 m3 r3 e3 => by
      cases d with
      | bl k =>
        cases r3
        refine ⟨k, rfl, ?_⟩
        cases k with
        | true => exact iteT ⟨z, ρ, M3, _, E, hs.ext (e1.trans (e2.trans e3)), m3, h3, fun w M4 vw H4 h4 m4 r4 e4 => ad' _ _ _ _ _ _ _ _ _ m4 ((e3.trans e4) _ _ r2) r4 h4 (fun d5 M5 v5 H5 h5 m5 r5 e5 => by
            cases d5 with
            | bl k5 => cases r5; exact ⟨k5, rfl, hk _ _ _ h5 m5 (e1.trans (e2.trans (e3.trans (e4.trans e5))))⟩
            | _ => exact h5.elim), hE.ext (e1.trans (e2.trans e3))⟩
        | false => exact iteF ⟨false, rfl, hk _ _ _ h3 m3 (e1.trans (e2.trans e3))⟩
      | _ => exact h3.elim), hE.ext e1⟩, hE⟩

/-! ### tests -/
end
end L2.DL
/-! DLc: tests, operators, items, slices -/
namespace L2.DL
open PySem PySem.Spec PyProof.Rows
variable [Tbs]

/-! ### data as the library has it -/
mutual
def pd : D → PyData
  | .non => .none | .bl b => .bool b | .int i => .int i | .str x => .str x
  | .tup ds => .tuple (pds ds) | .lst ds => .list (pds ds)
  | .ty _ => .none | .ref _ => .none | .scr _ => .none | .fn _ => .none | .clo _ _ _ => .none
def pds : List D → List PyData
  | [] => []
  | d :: ds => pd d :: pds ds
end
mutual
def isP : D → Bool
  | .non => true | .bl _ => true | .int _ => true | .str _ => true
  | .tup ds => isPs ds | .lst ds => isPs ds
  | .ty _ => false | .ref _ => false | .scr _ => false | .fn _ => false | .clo _ _ _ => false
def isPs : List D → Bool
  | [] => true
  | d :: ds => isP d && isPs ds
end
section
variable {K : ZK} {H : Hp} {M : MS}
mutual
theorem dp_of : ∀ (d : D) (v : V), isP d = true → Rel K H M v d → Dp K.K H v (pd d)
  | .non, _, _, h => by cases h; exact .non
  | .bl b, _, _, h => by cases h; exact .bl b
  | .int b, _, _, h => by cases h; exact .int b
  | .str b, _, _, h => by cases h; exact .str b
  | .tup ds, _, p, h => by
    cases h with
    | tup a b => exact .tup a (dps_of ds _ p b)
  | .lst ds, _, p, h => by
    cases h with
    | lst a b => exact .lst a.sq (dps_of ds _ p b)
  | .ty _, _, p, _ => by cases p
  | .ref _, _, p, _ => by cases p
  | .scr _, _, p, _ => by cases p
  | .fn _, _, p, _ => by cases p
  | .clo _ _ _, _, p, _ => by cases p
theorem dps_of : ∀ (ds : List D) (vs : List V), isPs ds = true → RelA K H M vs ds → DpAll K.K H vs (pds ds)
  | [], _, _, h => by cases h; exact .nil
  | d :: ds, _, p, h => by
    have p' : (isP d && isPs ds) = true := p
    rw [Bool.and_eq_true] at p'
    cases h with
    | cons a b => exact .cons (dp_of d _ p'.1 a) (dps_of ds _ p'.2 b)
end
/-- what is read of a value: a list of the store by its items -/
def Sees (M : MS) : D → D → Prop
  | .ref a, e => ∃ ds, M a = some (.lst ds) ∧ e = .lst ds
  | d, e => e = d
theorem dp_sees (m : RelM K H M) {d e : D} {v : V} (s : Sees M d e) (p : isP e = true) (r : Rel K H M v d) : Dp K.K H v (pd e) := by
  cases d with
  | ref a =>
    obtain ⟨ds, ea, rfl⟩ := s
    cases r
    obtain ⟨vs, q, ra⟩ := m.at' a _ ea
    exact .lst (SqL.of q) (dps_of ds vs p ra)
  | _ => (have s' := s; subst s'; exact dp_of _ v p r)
/-- the items of a list -/
def Ls (M : MS) : D → List D → Prop
  | .lst ds, e => e = ds
  | .ref a, e => M a = some (.lst e)
  | _, _ => False
theorem ls_at (m : RelM K H M) {d : D} {ds : List D} {v : V} (s : Ls M d ds) (r : Rel K H M v d) : ∃ p vs, v = .ref p ∧ H p = some (.lst vs) ∧ RelA K H M vs ds := by
  cases d with
  | ref a =>
    cases r
    obtain ⟨vs, q, ra⟩ := m.at' a _ s
    exact ⟨a, vs, rfl, q, ra⟩
  | lst es =>
    have s' : ds = es := s
    subst s'
    cases r with
    | lst f ra => exact ⟨_, _, rfl, f.2, ra⟩
  | _ => exact (show False from s).elim
end

section
variable {X : Cx} {W : WX} {a b c e : Expr} {ta tb tc te : DTE} {tA tB : DTT} {pos : Pos}

/-! ### truth, tests -/
def truD : D → (Bool → MS → Prop) → MS → Prop
  | .non, R, M => R false M
  | .bl b, R, M => R b M
  | .int i, R, M => R (i != 0) M
  | .str x, R, M => x.length ≤ sizeLine ∧ R ((x.length : Int) != 0) M
  | .tup ds, R, M => R (!ds.isEmpty) M
  | .lst ds, R, M => R (!ds.isEmpty) M
  | .ref a, R, M => ∃ ds, M a = some (.lst ds) ∧ R (!ds.isEmpty) M
  | _, _, _ => False
theorem emp_of {K : ZK} {H : Hp} {M : MS} {vs : List V} {ds : List D} (r : RelA K H M vs ds) : ds.isEmpty = vs.isEmpty := by cases r <;> rfl
theorem tru_of {K : ZK} {H : Hp} {M : MS} {d : D} {v : V} {R : Bool → MS → Prop} (m : RelM K H M) (r : Rel K H M v d) (h : truD d R M) : ∃ k, TruV K.K v H k ∧ R k M := by
  cases d with
  | non => cases r; exact ⟨_, rfl, h⟩
  | bl b => cases r; exact ⟨_, rfl, h⟩
  | int i => cases r; exact ⟨_, rfl, h⟩
  | str x => cases r; exact ⟨_, ⟨h.1, rfl⟩, h.2⟩
  | tup ds =>
    cases r with
    | tup a b => exact ⟨_, .inr (.inl ⟨_, a, rfl⟩), by rw [← emp_of b]; exact h⟩
  | lst ds =>
    cases r with
    | lst a b => exact ⟨_, .inl ⟨_, a.sq, rfl⟩, by rw [← emp_of b]; exact h⟩
  | ref a =>
    obtain ⟨ds, ea, q⟩ := h
    cases r
    obtain ⟨vs, e1, ra⟩ := m.at' a _ ea
    exact ⟨_, .inl ⟨_, SqL.of e1, rfl⟩, by rw [← emp_of ra]; exact q⟩
  | _ => exact (show False from h).elim
def dTru (t : DTE) : DTT := fun ρ R E M => t ρ (fun d M1 => truD d R M1) E M
theorem dt_tru (ha : DE X W a ta) (he : ∀ whole, isTrue a X.env whole = (do let v ← whole; standAt a.pos; holding [v] (truthy v)) := by intro _; rfl) : DT X W a (dTru ta) :=
  impT (pt_truth ha he) fun σ H Q ⟨z, ρ, M, R, E, hs, hm, h, hc, hE⟩ =>
    ⟨z, ρ, M, _, E, hs, hm, h, fun d M1 v H1 h1 m1 r1 e1 => by
      obtain ⟨k, t, q⟩ := tru_of m1 r1 h1
      exact ⟨k, t, hc _ _ _ q m1 e1⟩, hE⟩
def dAnd (t u : DTT) : DTT := fun ρ R E M => t ρ (fun b M1 => if b = true then u ρ R E M1 else R false M1) E M
def dOr (t u : DTT) : DTT := fun ρ R E M => t ρ (fun b M1 => if b = true then R true M1 else u ρ R E M1) E M
def dNot (t : DTT) : DTT := fun ρ R E M => t ρ (fun b M1 => R (!b) M1) E M
theorem dw_and1 (ha : DT X W a tA) : DW X W (.BoolOp .And [a] pos) tA := pw_and1 ha
theorem dw_or1 (ha : DT X W a tA) : DW X W (.BoolOp .Or [a] pos) tA := pw_or1 ha
theorem dw_and {r : List Expr} (ha : DT X W a tA) (hb : DW X W (.BoolOp .And (b :: r) pos) tB) : DW X W (.BoolOp .And (a :: b :: r) pos) (dAnd tA tB) :=
  impW (pw_and ha hb) fun σ H Q ⟨z, ρ, M, R, E, hs, hm, h, hc, hE⟩ =>
    ⟨z, ρ, M, _, E, hs, hm, h, fun k M1 H1 h1 m1 e1 => by
      cases k with
      | true => exact iteT ⟨z, ρ, M1, R, E, hs.ext e1, m1, by simpa using h1, fun k2 M2 H2 h2 m2 e2 => hc _ _ _ h2 m2 (e1.trans e2), hE.ext e1⟩
      | false => exact iteF (hc _ _ _ (by simpa using h1) m1 e1), hE⟩
theorem dw_or {r : List Expr} (ha : DT X W a tA) (hb : DW X W (.BoolOp .Or (b :: r) pos) tB) : DW X W (.BoolOp .Or (a :: b :: r) pos) (dOr tA tB) :=
  impW (pw_or ha hb) fun σ H Q ⟨z, ρ, M, R, E, hs, hm, h, hc, hE⟩ =>
    ⟨z, ρ, M, _, E, hs, hm, h, fun k M1 H1 h1 m1 e1 => by
      cases k with
      | true => exact iteT (hc _ _ _ (by simpa using h1) m1 e1)
      | false => exact iteF ⟨z, ρ, M1, R, E, hs.ext e1, m1, by simpa using h1, fun k2 M2 H2 h2 m2 e2 => hc _ _ _ h2 m2 (e1.trans e2), hE.ext e1⟩, hE⟩
theorem dt_not (ha : DT X W a tA) : DT X W (.UnaryOp .Not a pos) (dNot tA) :=
  impT (pt_not ha) fun σ H Q ⟨z, ρ, M, R, E, hs, hm, h, hc, hE⟩ =>
    ⟨z, ρ, M, _, E, hs, hm, h, fun k M1 H1 h1 m1 e1 => hc _ _ _ h1 m1 e1, hE⟩
/-- and, or, not as values -/
def dAndV (ta tb : DTE) : DTE := fun ρ R E M => ta ρ (fun x M1 => truD x (fun k M2 => if k = true then tb ρ R E M2 else R x M2) M1) E M
def dOrV (ta tb : DTE) : DTE := fun ρ R E M => ta ρ (fun x M1 => truD x (fun k M2 => if k = true then R x M2 else tb ρ R E M2) M1) E M
def dNotV (ta : DTE) : DTE := fun ρ R E M => ta ρ (fun x M1 => truD x (fun k M2 => R (.bl (!k)) M2) M1) E M
theorem de_one {op} (ha : DE X W a ta) : DE X W (.BoolOp op [a] pos) ta := pe_one ha
theorem de_and {r : List Expr} (ha : DE X W a ta) (hb : DE X W (.BoolOp .And (b :: r) pos) tb) : DE X W (.BoolOp .And (a :: b :: r) pos) (dAndV ta tb) :=
  imp (pe_andT ha hb) fun σ H Q ⟨z, ρ, M, R, E, hs, hm, h, hc, hE⟩ =>
    ⟨z, ρ, M, _, E, hs, hm, h, fun d M1 v H1 h1 m1 r1 e1 => by
      obtain ⟨k, t, q⟩ := tru_of m1 r1 h1
      refine ⟨k, t, ?_⟩
      cases k with
      | true => exact iteT ⟨z, ρ, M1, R, E, hs.ext e1, m1, by simpa using q, hc.ext e1, hE.ext e1⟩
      | false => exact iteF (hc _ _ _ _ (by simpa using q) m1 r1 e1), hE⟩
theorem de_or {r : List Expr} (ha : DE X W a ta) (hb : DE X W (.BoolOp .Or (b :: r) pos) tb) : DE X W (.BoolOp .Or (a :: b :: r) pos) (dOrV ta tb) :=
  imp (pe_orT ha hb) fun σ H Q ⟨z, ρ, M, R, E, hs, hm, h, hc, hE⟩ =>
    ⟨z, ρ, M, _, E, hs, hm, h, fun d M1 v H1 h1 m1 r1 e1 => by
      obtain ⟨k, t, q⟩ := tru_of m1 r1 h1
      refine ⟨k, t, ?_⟩
      cases k with
      | true => exact iteT (hc _ _ _ _ (by simpa using q) m1 r1 e1)
      | false => exact iteF ⟨z, ρ, M1, R, E, hs.ext e1, m1, by simpa using q, hc.ext e1, hE.ext e1⟩, hE⟩
theorem de_not (ha : DE X W a ta) : DE X W (.UnaryOp .Not a pos) (dNotV ta) :=
  imp (pe_notT ha) fun σ H Q ⟨z, ρ, M, R, E, hs, hm, h, hc, hE⟩ =>
    ⟨z, ρ, M, _, E, hs, hm, h, fun d M1 v H1 h1 m1 r1 e1 => by
      obtain ⟨k, t, q⟩ := tru_of m1 r1 h1
      exact ⟨k, t, hc _ _ _ _ q m1 (.bl _) e1⟩, hE⟩
def dIf (tA : DTT) (ta tb : DTE) : DTE := fun ρ R E M => tA ρ (fun k M1 => if k = true then ta ρ R E M1 else tb ρ R E M1) E M
theorem de_ifExp (hc : DT X W c tA) (ha : DE X W a ta) (hb : DE X W b tb) : DE X W (.IfExp c a b pos) (dIf tA ta tb) :=
  imp (pe_ifExp hc ha hb) fun σ H Q ⟨z, ρ, M, R, E, hs, hm, h, hk, hE⟩ =>
    ⟨z, ρ, M, _, E, hs, hm, h, fun k M1 H1 h1 m1 e1 => by
      cases k with
      | true => exact iteT ⟨z, ρ, M1, R, E, hs.ext e1, m1, by simpa using h1, hk.ext e1, hE.ext e1⟩
      | false => exact iteF ⟨z, ρ, M1, R, E, hs.ext e1, m1, by simpa using h1, hk.ext e1, hE.ext e1⟩, hE⟩

/-! ### operators -/
def CMulX (i j : Int) : Prop := i.natAbs.log2 + j.natAbs.log2 < 1000000
def CDivX (_ j : Int) : Prop := j ≠ 0 ∧ j.natAbs.log2 < 9000
theorem op_fdivX : OpR X (binaryOp .FloorDiv) (rI CDivX fun i j => .int (i.fdiv j)) := opI fun i j _ _ _ _ _ hc q => floordiv_int hc.1 q (.inl (PyProof.noPylong_of_log2 hc.2))
theorem op_mulX : OpR X (binaryOp .Mult) (rI CMulX fun i j => .int (i * j)) := opI fun i j _ _ _ _ _ hc q => mul_int q (CMulW.ok (show CMulW i j from hc))
def addD : D → D → PD → MS → Prop
  | .int i, .int j, R, M => R (.int (i + j)) M
  | .tup a, .tup b, R, M => a.length + b.length ≤ sizeLine ∧ R (.tup (a ++ b)) M
  | .str a, .str b, R, M => a.length + b.length ≤ sizeLine ∧ R (.str (a ++ b)) M
  | x, y, R, M => ∃ a b, Ls M x a ∧ Ls M y b ∧ a.length + b.length ≤ sizeLine ∧ R (.lst (a ++ b)) M
theorem o_add : OpD X (binaryOp .Add) addD := by
  refine ⟨_, op_add.or (op_catA.or (op_add_str.or op_cat)), fun z H M x y vx vy R Q m rx ry h hc => ?_⟩
  unfold addD at h
  split at h
  · cases rx; cases ry
    exact .inl ⟨_, _, rfl, rfl, hc.here h m (.int _)⟩
  · rename_i a b
    cases rx with
    | tup sx ax =>
      cases ry with
      | tup sy ay =>
        refine .inr (.inl ⟨_, _, _, _, rfl, rfl, sx, sy, by rw [ax.length, ay.length]; exact h.1, fun z => ?_, fun z z2 => ?_, fun z z2 p hp => ?_⟩)
        · subst z; cases ax
          exact hc.here h.2 m (.tup sy ay)
        · subst z2; cases ay
          exact hc.here h.2 m (.tup sx (by rw [List.append_nil]; exact ax))
        · exact hc _ _ _ _ h.2 (relM_new m hp) (.tup (SqT.of upd_same) ((ext_new m hp).all (ax.append ay))) (ext_new m hp)
  · cases rx; cases ry
    exact .inr (.inr (.inl ⟨_, _, rfl, rfl, h.1, hc.here h.2 m (.str _)⟩))
  · obtain ⟨a, b, la, lb, hz, q⟩ := h
    obtain ⟨p1, vs, rfl, h1, r1⟩ := ls_at m la rx
    obtain ⟨p2, us, rfl, h2, r2⟩ := ls_at m lb ry
    exact .inr (.inr (.inr ⟨p1, p2, vs, us, rfl, rfl, h1, h2, by rw [r1.length, r2.length]; exact hz, fun p hp =>
      hc _ _ _ _ q (relM_new m hp) (.lst (fz_new m hp) ((ext_new m hp).all (r1.append r2))) (ext_new m hp)⟩))
def subD : D → D → PD → MS → Prop
  | .int i, .int j, R, M => R (.int (i - j)) M
  | _, _, _, _ => False
theorem o_sub : OpD X (binaryOp .Sub) subD := by
  refine ⟨_, op_sub, fun z H M x y vx vy R Q m rx ry h hc => ?_⟩
  unfold subD at h
  split at h
  · cases rx; cases ry
    exact ⟨_, _, rfl, rfl, hc.here h m (.int _)⟩
  · exact h.elim
def mulD : D → D → PD → MS → Prop
  | .int i, .int j, R, M => CMulX i j ∧ R (.int (i * j)) M
  | x, .int k, R, M => ∃ a, Ls M x a ∧ -(2 ^ 63) ≤ k ∧ k < 2 ^ 63 ∧ a.length * k.toNat ≤ sizeLine ∧ R (.lst (List.replicate k.toNat a).flatten) M
  | _, _, _, _ => False
theorem RelA.rep {K : ZK} {H : Hp} {M : MS} {vs : List V} {ds : List D} (r : RelA K H M vs ds) : ∀ k : Nat, RelA K H M (List.replicate k vs).flatten (List.replicate k ds).flatten
  | 0 => .nil
  | k + 1 => by
    rw [List.replicate_succ, List.replicate_succ, List.flatten_cons, List.flatten_cons]
    exact r.append (RelA.rep r k)
theorem o_mul : OpD X (binaryOp .Mult) mulD := by
  refine ⟨_, op_mulX.or op_rep, fun z H M x y vx vy R Q m rx ry h hc => ?_⟩
  unfold mulD at h
  split at h
  · cases rx; cases ry
    exact .inl ⟨_, _, rfl, rfl, h.1, hc.here h.2 m (.int _)⟩
  · obtain ⟨a, la, h1, h2, hz, q⟩ := h
    obtain ⟨p1, vs, rfl, e1, r1⟩ := ls_at m la rx
    cases ry
    exact .inr ⟨p1, _, vs, rfl, rfl, e1, h1, h2, by rw [r1.length]; exact hz, fun p hp => hc _ _ _ _ q (relM_new m hp) (.lst (fz_new m hp) ((ext_new m hp).all (r1.rep _))) (ext_new m hp)⟩
  · exact h.elim
def fdivD : D → D → PD → MS → Prop
  | .int i, .int j, R, M => CDivX i j ∧ R (.int (i.fdiv j)) M
  | _, _, _, _ => False
theorem o_fdiv : OpD X (binaryOp .FloorDiv) fdivD := by
  refine ⟨_, op_fdivX, fun z H M x y vx vy R Q m rx ry h hc => ?_⟩
  unfold fdivD at h
  split at h
  · cases rx; cases ry
    exact ⟨_, _, rfl, rfl, h.1, hc.here h.2 m (.int _)⟩
  · exact h.elim
def modD : D → D → PD → MS → Prop
  | .int i, .int j, R, M => j ≠ 0 ∧ R (.int (i.fmod j)) M
  | _, _, _, _ => False
theorem o_mod : OpD X (binaryOp .Mod) modD := by
  refine ⟨_, op_modN, fun z H M x y vx vy R Q m rx ry h hc => ?_⟩
  unfold modD at h
  split at h
  · cases rx; cases ry
    exact ⟨_, _, rfl, rfl, h.1, hc.here h.2 m (.int _)⟩
  · exact h.elim
def powD : D → D → PD → MS → Prop
  | .int i, .int j, R, M => CPow i j ∧ R (.int (i ^ j.toNat)) M
  | _, _, _, _ => False
theorem o_pow : OpD X (binaryOp .Pow) powD := by
  refine ⟨_, op_pow, fun z H M x y vx vy R Q m rx ry h hc => ?_⟩
  unfold powD at h
  split at h
  · cases rx; cases ry
    exact ⟨_, _, rfl, rfl, h.1, hc.here h.2 m (.int _)⟩
  · exact h.elim
def andD : D → D → PD → MS → Prop
  | .int i, .int j, R, M => R (.int (Builtin.bitAnd i j)) M
  | _, _, _, _ => False
theorem o_and : OpD X (binaryOp .BitAnd) andD := by
  refine ⟨_, op_and, fun z H M x y vx vy R Q m rx ry h hc => ?_⟩
  unfold andD at h
  split at h
  · cases rx; cases ry
    exact ⟨_, _, rfl, rfl, hc.here h m (.int _)⟩
  · exact h.elim

/-! ### comparisons -/
def iiD (f : Int → Int → Bool) : D → D → PD → MS → Prop
  | .int i, .int j, R, M => R (.bl (f i j)) M
  | _, _, _, _ => False
theorem o_ii {op : CmpOp} {f : Int → Int → Bool} (o : OpR X (compareOp op) (rI0 fun i j => .bl (f i j))) : OpD X (compareOp op) (iiD f) := by
  refine ⟨_, o, fun z H M x y vx vy R Q m rx ry h hc => ?_⟩
  unfold iiD at h
  split at h
  · cases rx; cases ry
    exact ⟨_, _, rfl, rfl, hc.here h m (.bl _)⟩
  · exact h.elim
abbrev ltD := iiD fun i j => decide (i < j)
abbrev leD := iiD fun i j => decide (i ≤ j)
abbrev gtD := iiD fun i j => decide (j < i)
abbrev geD := iiD fun i j => decide (j ≤ i)
theorem o_lt : OpD X (compareOp .Lt) ltD := o_ii op_lt
theorem o_le : OpD X (compareOp .LtE) leD := o_ii op_le
theorem o_gt : OpD X (compareOp .Gt) gtD := o_ii op_gt
theorem o_ge : OpD X (compareOp .GtE) geD := o_ii op_ge
/-- == -/
def eqG (f : Bool → Bool) (x y : D) (R : PD) (M : MS) : Prop := ∃ x' y', Sees M x x' ∧ Sees M y y' ∧ isP x' = true ∧ isP y' = true ∧ SeqAt.shaped (pd x') = true ∧ SeqAt.shaped (pd y') = true ∧ R (.bl (f (PyData.eqv (pd x') (pd y')))) M
def eqD (f : Bool → Bool) : D → D → PD → MS → Prop
  | .int i, .int j, R, M => R (.bl (f (decide (i = j)))) M
  | .str i, .str j, R, M => R (.bl (f (decide (i = j)))) M
  | .bl i, .bl j, R, M => R (.bl (f (decide (i = j)))) M
  | x, y, R, M => eqG f x y R M
theorem eqG_of {H : Hp} {M : MS} {x y : D} {vx vy : V} {R : PD} {Q : VK} {z : Hd} (m : RelM ⟨X.K, z⟩ H M) (rx : Rel ⟨X.K, z⟩ H M vx x) (ry : Rel ⟨X.K, z⟩ H M vy y) (h : eqG id x y R M) (hc : Cont ⟨X.K, z⟩ H M R Q) : rEqD X.K vx vy H Q := by
  obtain ⟨x', y', sx, sy, px, py, hx, hy, q⟩ := h
  exact ⟨_, _, dp_sees m sx px rx, dp_sees m sy py ry, hx, hy, hc.here q m (.bl _)⟩
theorem eqG_ne {H : Hp} {M : MS} {x y : D} {vx vy : V} {R : PD} {Q : VK} {z : Hd} (m : RelM ⟨X.K, z⟩ H M) (rx : Rel ⟨X.K, z⟩ H M vx x) (ry : Rel ⟨X.K, z⟩ H M vy y) (h : eqG (fun k => !k) x y R M) (hc : Cont ⟨X.K, z⟩ H M R Q) : rNeD X.K vx vy H Q := by
  obtain ⟨x', y', sx, sy, px, py, hx, hy, q⟩ := h
  exact ⟨_, _, dp_sees m sx px rx, dp_sees m sy py ry, hx, hy, hc.here q m (.bl _)⟩
theorem o_eq (hu : X.A.units + 64 < cLine) : OpD X (compareOp .Eq) (eqD id) := by
  refine ⟨_, op_eq.or (op_eqD hu), fun z H M x y vx vy R Q m rx ry h hc => ?_⟩
  unfold eqD at h
  split at h
  · cases rx; cases ry
    exact .inl ⟨rfl, hc.here (by simpa [V.int.injEq] using h) m (.bl _)⟩
  · cases rx; cases ry
    exact .inl ⟨rfl, hc.here (by simpa [V.str.injEq] using h) m (.bl _)⟩
  · cases rx; cases ry
    exact .inl ⟨rfl, hc.here (by simpa [V.bl.injEq] using h) m (.bl _)⟩
  · exact .inr (eqG_of m rx ry h hc)
theorem o_ne (hu : X.A.units + 64 < cLine) : OpD X (compareOp .NotEq) (eqD fun k => !k) := by
  refine ⟨_, op_ne.or (op_neD hu), fun z H M x y vx vy R Q m rx ry h hc => ?_⟩
  unfold eqD at h
  split at h
  · cases rx; cases ry
    exact .inl ⟨rfl, hc.here (by simpa [V.int.injEq] using h) m (.bl _)⟩
  · cases rx; cases ry
    exact .inl ⟨rfl, hc.here (by simpa [V.str.injEq] using h) m (.bl _)⟩
  · cases rx; cases ry
    exact .inl ⟨rfl, hc.here (by simpa [V.bl.injEq] using h) m (.bl _)⟩
  · exact .inr (eqG_ne m rx ry h hc)
/-- is None -/
def isNon : D → Bool
  | .non => true
  | _ => false
theorem isNon_of {K : ZK} {H : Hp} {M : MS} {v : V} {d : D} (r : Rel K H M v d) : decide (v = .non) = isNon d := by
  cases r <;> simp [isNon]
def isD (f : Bool → Bool) : D → D → PD → MS → Prop
  | x, .non, R, M => R (.bl (f (isNon x))) M
  | _, _, _, _ => False
theorem o_is : OpD X (compareOp .Is) (isD id) := by
  refine ⟨_, op_isN, fun z H M x y vx vy R Q m rx ry h hc => ?_⟩
  unfold isD at h
  split at h
  · cases ry
    exact ⟨rfl, by rw [isNon_of rx]; exact hc.here h m (.bl _)⟩
  · exact h.elim
theorem o_isnot : OpD X (compareOp .IsNot) (isD fun k => !k) := by
  refine ⟨_, op_notN, fun z H M x y vx vy R Q m rx ry h hc => ?_⟩
  unfold isD at h
  split at h
  · cases ry
    exact ⟨rfl, by rw [isNon_of rx]; exact hc.here h m (.bl _)⟩
  · exact h.elim
/-- -a -/
def UnD (X : Cx) (fop : Value → Sem Value) (f : D → PD → MS → Prop) : Prop :=
  ∃ r, UnR X fop r ∧ ∀ z H M x vx R Q, RelM ⟨X.K, z⟩ H M → Rel ⟨X.K, z⟩ H M vx x → f x R M → Cont ⟨X.K, z⟩ H M R Q → r vx H Q
def dUn (f : D → PD → MS → Prop) (ta : DTE) : DTE := fun ρ R E M => ta ρ (fun x M1 => f x R M1) E M
theorem de_un {op : UnaryOp} {f : D → PD → MS → Prop} (o : UnD X (unaryOp op) f) (ha : DE X W a ta) : DE X W (.UnaryOp op a pos) (dUn f ta) := by
  obtain ⟨r, ho, ad⟩ := o
  exact imp (pe_un ho ha) fun σ H Q ⟨z, ρ, M, R, E, hs, hm, h, hc, hE⟩ =>
    ⟨z, ρ, M, _, E, hs, hm, h, fun x M1 vx H1 h1 m1 r1 e1 => ad _ _ _ _ _ _ _ m1 r1 h1 (hc.ext e1), hE⟩
def negD : D → PD → MS → Prop
  | .int i, R, M => R (.int (-i)) M
  | _, _, _ => False
theorem o_neg : UnD X (unaryOp .USub) negD := by
  refine ⟨_, un_neg, fun z H M x vx R Q m rx h hc => ?_⟩
  unfold negD at h
  split at h
  · cases rx
    exact ⟨_, rfl, hc.here h m (.int _)⟩
  · exact h.elim

/-! ### items, slices -/
def itD (ds : List D) (i : Int) (R : PD) (M : MS) : Prop := match atI ds i with
  | some d => R d M
  | none => False
def ixD : D → D → PD → MS → Prop
  | .tup ds, .int i, R, M => itD ds i R M
  | .lst ds, .int i, R, M => itD ds i R M
  | .str x, .int i, R, M => x.length ≤ sizeLine ∧ match atI x.cps.toList i with
    | some c => R (.str ⟨#[c]⟩) M
    | none => False
  | .ref a, .int i, R, M => ∃ ds, M a = some (.lst ds) ∧ itD ds i R M
  | _, _, _, _ => False
theorem RelA.at {K : ZK} {H : Hp} {M : MS} {vs : List V} {ds : List D} (r : RelA K H M vs ds) {i : Int} {d : D} (h : atI ds i = some d) : ∃ v, atI vs i = some v ∧ Rel K H M v d := by
  unfold atI at h ⊢
  rw [r.length]
  cases q : ixN ds.length i with
  | none => rw [q] at h; cases h
  | some j =>
    rw [q] at h
    exact r.get h
theorem itD_of {K : ZK} {H : Hp} {M : MS} {vs : List V} {ds : List D} {i : Int} {R : PD} {Q : VK} (m : RelM K H M) (r : RelA K H M vs ds) (h : itD ds i R M) (hc : Cont K H M R Q) : ∃ v, atI vs i = some v ∧ Q v H := by
  unfold itD at h
  split at h
  · next d e =>
    obtain ⟨v, e1, r1⟩ := r.at e
    exact ⟨v, e1, hc.here h m r1⟩
  · exact h.elim
def dIx (ta tb : DTE) : DTE := dOp ixD ta tb
theorem de_ix (ha : DE X W a ta) (hb : DE X W b tb) (hs : PlainIx b := by exact fun _ _ => rfl) : DE X W (.Subscript a b pos) (dIx ta tb) :=
  imp (pe_ix ix_seq ha hb hs) fun σ H Q ⟨z, ρ, M, R, E, hs, hm, h, hc, hE⟩ =>
    ⟨z, ρ, M, _, E, hs, hm, h, fun x M1 vx H1 h1 m1 r1 e1 => ⟨z, ρ, M1, _, E, hs.ext e1, m1, h1, fun y M2 vy H2 h2 m2 r2 e2 => by
      have rx := e2 _ _ r1
      have hc2 := hc.ext (e1.trans e2)
      have h2 : ixD x y R M2 := h2
      unfold ixD at h2
      split at h2
      · cases r2
        cases rx with
        | tup s ra =>
          obtain ⟨v, e3, q⟩ := itD_of m2 ra h2 hc2
          exact .inr (.inl ⟨_, _, _, v, rfl, rfl, s, e3, q⟩)
      · cases r2
        cases rx with
        | lst s ra =>
          obtain ⟨v, e3, q⟩ := itD_of m2 ra h2 hc2
          exact .inl ⟨_, _, _, v, rfl, rfl, s.sq, e3, q⟩
      · cases r2; cases rx
        obtain ⟨hz, h3⟩ := h2
        split at h3
        · next c ec => exact .inr (.inr ⟨_, _, c, rfl, rfl, hz, ec, hc2.here h3 m2 (.str _)⟩)
        · exact h3.elim
      · cases r2; cases rx
        obtain ⟨ds, ea, h3⟩ := h2
        obtain ⟨vs, q1, ra⟩ := m2.at' _ _ ea
        obtain ⟨v, e3, q⟩ := itD_of m2 ra h3 hc2
        exact .inl ⟨_, _, _, v, rfl, rfl, SqL.of q1, e3, q⟩
      · exact h2.elim, hE.ext e1⟩, hE⟩
def dNoPart : DTO := fun _ R _ M => R none M
def dPart (t : DTE) : DTO := fun ρ R E M => t ρ (fun d M1 => match d with | .int i => R (some i) M1 | _ => False) E M
theorem do_none : DO X W none dNoPart := impO po_none fun σ H Q ⟨z, ρ, M, R, E, hs, hm, h, hc, hE⟩ => hc _ _ _ h hm Ext.refl
theorem do_some (h : DE X W e te) : DO X W (some e) (dPart te) :=
  impO (po_some h) fun σ H Q ⟨z, ρ, M, R, E, hs, hm, h, hc, hE⟩ =>
    ⟨z, ρ, M, _, E, hs, hm, h, fun d M1 v H1 h1 m1 r1 e1 => by
      cases d with
      | int i => cases r1; exact ⟨i, rfl, hc _ _ _ h1 m1 e1⟩
      | _ => exact h1.elim, hE⟩
def cut {α : Type} (xs : List α) (lo hi : Option Int) : List α := (xs.drop (HT.sIx xs.length 0 lo)).take (HT.sIx xs.length xs.length hi - HT.sIx xs.length 0 lo)
theorem RelA.cut {K : ZK} {H : Hp} {M : MS} {vs : List V} {ds : List D} (r : RelA K H M vs ds) (lo hi : Option Int) : RelA K H M (cutV vs lo hi) (DL.cut ds lo hi) := by
  unfold cutV DL.cut
  rw [r.length]
  exact (r.drop _).take _
theorem cut_whole {α : Type} {xs : List α} {lo hi : Option Int} (h : HT.sIx xs.length 0 lo = 0 ∧ HT.sIx xs.length xs.length hi = xs.length) : cut xs lo hi = xs := by
  unfold cut
  rw [h.1, h.2, List.drop_zero, Nat.sub_zero, List.take_length]
def slD : D → Option Int → Option Int → PD → MS → Prop
  | .tup ds, lo, hi, R, M => R (.tup (cut ds lo hi)) M
  | .lst ds, lo, hi, R, M => R (.lst (cut ds lo hi)) M
  | .scr ns, lo, hi, R, M => R (.lst ((cut ns lo hi).map D.int)) M
  | .ref a, lo, hi, R, M => ∃ ds, M a = some (.lst ds) ∧ R (.lst (cut ds lo hi)) M
  | _, _, _, _, _ => False
theorem cutV_map (ns : List Int) (lo hi : Option Int) : cutV (ns.map V.int) lo hi = (cut ns lo hi).map V.int := by
  unfold cutV cut
  rw [List.length_map, List.map_take, List.map_drop]
def dSl (ta : DTE) (tl th : DTO) : DTE := fun ρ R E M => ta ρ (fun x M1 => tl ρ (fun lo M2 => th ρ (fun hi M3 => slD x lo hi R M3) E M2) E M1) E M
theorem de_slice {lo hi : Option Expr} {p2 : Pos} {tl th : DTO} (ha : DE X W a ta) (hl : DO X W lo tl) (hh : DO X W hi th) : DE X W (.Subscript a (.Slice lo hi none p2) pos) (dSl ta tl th) :=
  imp (pe_slice (sl_list.or sl_tupA) ha hl hh) fun σ H Q ⟨z, ρ, M, R, E, hs, hm, h, hc, hE⟩ =>
    ⟨z, ρ, M, _, E, hs, hm, h, fun x M1 vx H1 h1 m1 r1 e1 => ⟨z, ρ, M1, _, E, hs.ext e1, m1, h1, fun lo M2 H2 h2 m2 e2 => ⟨z, ρ, M2, _, E, hs.ext (e1.trans e2), m2, h2, fun hi M3 H3 h3 m3 e3 => by
      have rx := (e2.trans e3) _ _ r1
      have hc2 := hc.ext (e1.trans (e2.trans e3))
      have h3 : slD x lo hi R M3 := h3
      unfold slD at h3
      split at h3
      · cases rx with
        | tup s ra =>
          refine .inr ⟨_, _, rfl, s, fun z => hc2.here h3 m3 ?_, fun z p hp => hc2 _ _ _ _ h3 (relM_new m3 hp) (.tup (SqT.of upd_same) ((ext_new m3 hp).all (ra.cut _ _))) (ext_new m3 hp)⟩
          rw [ra.length] at z
          rw [cut_whole z]
          exact .tup s ra
      · cases rx with
        | lst s ra => exact .inl ⟨_, _, rfl, s.sq, fun p hp => hc2 _ _ _ _ h3 (relM_new m3 hp) (.lst (fz_new m3 hp) ((ext_new m3 hp).all (ra.cut _ _))) (ext_new m3 hp)⟩
      · cases rx with
        | scr s => exact .inl ⟨_, _, rfl, s.sq, fun p hp => hc2 _ _ _ _ h3 (relM_new m3 hp) (.lst (fz_new m3 hp) (by rw [cutV_map]; exact relA_ints)) (ext_new m3 hp)⟩
      · cases rx
        obtain ⟨ds, ea, h4⟩ := h3
        obtain ⟨vs, q1, ra⟩ := m3.at' _ _ ea
        exact .inl ⟨_, _, rfl, SqL.of q1, fun p hp => hc2 _ _ _ _ h4 (relM_new m3 hp) (.lst (fz_new m3 hp) ((ext_new m3 hp).all (ra.cut _ _))) (ext_new m3 hp)⟩
      · exact h3.elim, hE.ext (e1.trans e2)⟩, hE.ext e1⟩, hE⟩
end
end L2.DL
/-! DLd: targets, statements, loops, comprehensions -/
namespace L2.DL
open PySem PySem.Spec PyProof.Rows
variable [Tbs]

theorem ofT {A B : Prop} (h : if true = true then A else B) : A := by rwa [if_pos rfl] at h
theorem ofF {A B : Prop} (h : if false = true then A else B) : B := by rwa [if_neg Bool.false_ne_true] at h
/-! ### targets -/
inductive Pat where
  | nm (i : Nat)
  | tp (ps : List Pat)
mutual
def patW : Pat → D → Sl → (Sl → MS → Prop) → MS → Prop
  | .nm i, d, ρ, k, M => k (ρ.set i (some d)) M
  | .tp ps, .tup ds, ρ, k, M => patsW ps ds ρ k M
  | .tp ps, .lst ds, ρ, k, M => patsW ps ds ρ k M
  | _, _, _, _, _ => False
def patsW : List Pat → List D → Sl → (Sl → MS → Prop) → MS → Prop
  | [], [], ρ, k, M => k ρ M
  | p :: ps, d :: ds, ρ, k, M => patW p d ρ (fun ρ1 M1 => patsW ps ds ρ1 k M1) M
  | _, _, _, _, _ => False
end
mutual
def Pat.ns : Pat → List Nat
  | .nm i => [i]
  | .tp ps => Pat.nss ps
def Pat.nss : List Pat → List Nat
  | [] => []
  | p :: ps => p.ns ++ Pat.nss ps
end
/-- slots but those of l are as they were -/
def Off (l : List Nat) (σ σ' : St) : Prop := σ'.length = σ.length ∧ ∀ i, i ∉ l → σ'[i]? = σ[i]?
theorem Off.refl (l : List Nat) (σ : St) : Off l σ σ := ⟨rfl, fun _ _ => rfl⟩
theorem Off.set (σ : St) (i : Nat) (v : Option V) : Off [i] σ (σ.set i v) := ⟨List.length_set .., fun j h => by
  rw [List.getElem?_set_ne (by intro z; exact h (by simp [z]))]⟩
theorem Off.trans {l m : List Nat} {a b c : St} (h : Off l a b) (k : Off m b c) : Off (l ++ m) a c := ⟨k.1.trans h.1, fun i hi => by
  rw [List.mem_append, not_or] at hi
  exact (k.2 i hi.2).trans (h.2 i hi.1)⟩
theorem wipe_at {σ : St} {i : Nat} : ∀ {vs : List Nat}, i ∈ vs → i < σ.length → (L2.wipe σ vs)[i]? = some none
  | v :: vs, h, hl => by
    unfold L2.wipe
    by_cases e : v = i
    · subst e
      rw [List.getElem?_set_self (by rw [L2.wipe_length]; exact hl)]
    · rw [List.getElem?_set_ne e]
      exact wipe_at (by simpa [Ne.symm e] using h) hl
theorem wipe_off {σ : St} {i : Nat} : ∀ {vs : List Nat}, i ∉ vs → (L2.wipe σ vs)[i]? = σ[i]?
  | [], _ => rfl
  | v :: vs, h => by
    unfold L2.wipe
    rw [List.mem_cons, not_or] at h
    rw [List.getElem?_set_ne (Ne.symm h.1)]
    exact wipe_off h.2
theorem Off.wipe {l vs : List Nat} {σ σ' : St} (h : Off l (L2.wipe σ vs) σ') (hl : ∀ i ∈ l, i ∈ vs) : L2.wipe σ' vs = L2.wipe σ vs := by
  have hlen : σ'.length = σ.length := by rw [h.1, L2.wipe_length]
  apply List.ext_getElem?
  intro i
  by_cases hi : i ∈ vs
  · by_cases hb : i < σ.length
    · rw [wipe_at hi (by rw [hlen]; exact hb), wipe_at hi hb]
    · rw [List.getElem?_eq_none (by rw [L2.wipe_length, hlen]; omega), List.getElem?_eq_none (by rw [L2.wipe_length]; omega)]
  · rw [wipe_off hi, h.2 i fun z => hi (hl i z)]
def liftG (F : PySem.W.Frag) (p : Pat) : TG := fun v σ H Q => ∃ (z : Hd) (d : D) (ρ : Sl) (M : MS) (k : Sl → MS → Prop), Rel ⟨F, z⟩ H M v d ∧ RelS ⟨F, z⟩ H M σ ρ ∧ RelM ⟨F, z⟩ H M ∧ patW p d ρ k M ∧ ∀ ρ' σ', k ρ' M → RelS ⟨F, z⟩ H M σ' ρ' → Off p.ns σ σ' → Q σ' H
def liftGs (F : PySem.W.Frag) (ps : List Pat) : TGs := fun vs σ H Q => ∃ (z : Hd) (ds : List D) (ρ : Sl) (M : MS) (k : Sl → MS → Prop), RelA ⟨F, z⟩ H M vs ds ∧ RelS ⟨F, z⟩ H M σ ρ ∧ RelM ⟨F, z⟩ H M ∧ patsW ps ds ρ k M ∧ ∀ ρ' σ', k ρ' M → RelS ⟨F, z⟩ H M σ' ρ' → Off (Pat.nss ps) σ σ' → Q σ' H
abbrev DG (X : Cx) (e : Expr) (p : Pat) : Prop := PG X e (liftG X.K p)
abbrev DGs (X : Cx) (es : List Expr) (ps : List Pat) : Prop := PGs X es (liftGs X.K ps)
theorem impG {X : Cx} {e : Expr} {t u : TG} (h : PG X e t) (hi : ∀ v σ H Q, u v σ H Q → t v σ H Q) : PG X e u := ⟨fun pins s σ H v w Q I r q => h.run pins s σ H v w Q I r (hi v σ H Q q)⟩
theorem impGs {X : Cx} {es : List Expr} {t u : TGs} (h : PGs X es t) (hi : ∀ vs σ H Q, u vs σ H Q → t vs σ H Q) : PGs X es u := ⟨fun pins s σ H v w Q I r q => h.run pins s σ H v w Q I r (hi v σ H Q q)⟩
theorem orG {X : Cx} {e : Expr} {t u : TG} (h : PG X e t) (h' : PG X e u) : PG X e (fun v σ H Q => t v σ H Q ∨ u v σ H Q) := ⟨fun pins s σ H v w Q I r q => by
  rcases q with q | q
  · exact h.run pins s σ H v w Q I r q
  · exact h'.run pins s σ H v w Q I r q⟩
section
variable {X : Cx} {W : WX} {e : Expr} {es : List Expr} {p : Pat} {ps : List Pat} {pos : Pos}
theorem dg_nm (i : Nat) {x : Str} (hN : X.N.Nodup) (hi : X.N[i]? = some x := by rfl) (hx : Loc X.env.scope x := by first | exact Or.inl rfl | exact Or.inr rfl) (hf : X.fn x = true ∨ X.env.scope.names.lookup x = some .local := by first | exact .inl rfl | exact .inr rfl) : DG X (.Name x pos) (.nm i) :=
  impG (pg_name hN hi hx hf) fun v σ H Q ⟨z, d, ρ, M, k, r, hs, hm, h, hc⟩ => hc _ _ h (hs.set i r) (Off.set σ i (some v))
theorem dgs_nil : DGs X [] [] := impGs pgs_nil fun vs σ H Q ⟨z, ds, ρ, M, k, r, hs, hm, h, hc⟩ => by
  cases r with
  | nil => exact ⟨rfl, hc _ _ h hs (Off.refl _ _)⟩
  | cons a b => exact (show False from h).elim
theorem dgs_cons (h1 : DG X e p) (h2 : DGs X es ps) (hs : (assignEach (e :: es) X.env).map (·.2) = assign e X.env :: (assignEach es X.env).map (·.2) := by rfl) : DGs X (e :: es) (p :: ps) :=
  impGs (pgs_cons h1 h2 hs) fun vs σ H Q ⟨z, ds, ρ, M, k, r, hs, hm, h, hc⟩ => by
    cases r with
    | nil => exact (show False from h).elim
    | cons a b =>
      exact ⟨_, _, rfl, z, _, ρ, M, _, a, hs, hm, h, fun ρ' σ' h' hs' o => ⟨z, _, ρ', M, k, b, hs', hm, h', fun ρ2 σ2 h2 hs2 o2 => hc ρ2 σ2 h2 hs2 (o.trans o2)⟩⟩
theorem patsW_len {M : MS} : ∀ {ps : List Pat} {ds : List D} {ρ : Sl} {k : Sl → MS → Prop} (_ : patsW ps ds ρ k M) (_ : ∀ ρ', k ρ' M → True), True := fun _ _ => trivial
theorem dg_tup {n : Nat} {j : Nat} (hc : X.calm = true) (h : DGs X es ps) (hl : ∀ ds ρ k M, patsW ps ds ρ k M → ds.length = n)
    (hn : (assignEach es X.env).length = n := by rfl) (hst : (assignEach es X.env).findIdx? (·.1) = none := by rfl) : DG X (.Tuple es j pos) (.tp ps) :=
  impG (orG (pg_tup hc h hn hst) (pg_unl hc h hn hst)) fun v σ H Q ⟨z, d, ρ, M, k, r, hs, hm, h, hc⟩ => by
    cases r with
    | tup s ra =>
      have h : patsW ps _ ρ k M := h
      exact .inl ⟨_, _, rfl, s, by rw [ra.length]; exact hl _ _ _ _ h, z, _, ρ, M, k, ra, hs, hm, h, hc⟩
    | lst s ra =>
      have h : patsW ps _ ρ k M := h
      exact .inr ⟨_, _, rfl, s.sq, by rw [ra.length]; exact hl _ _ _ _ h, z, _, ρ, M, k, ra, hs, hm, h, hc⟩
    | _ => exact (show False from h).elim
end
theorem pl0 : ∀ ds ρ k M, patsW [] ds ρ k M → ds.length = 0
  | [], _, _, _, _ => rfl
  | _ :: _, _, _, _, h => (show False from h).elim

/-! ### statements -/
section
variable {X : Cx} {W : WX} {a b c e : Expr} {te : DTE} {tA : DTT} {st : Stmt} {sts bs cs : List Stmt} {t u : DTS} {pos : Pos}
def dNext : DTS := fun De ρ M => De.nx ρ M
def dSeq (t u : DTS) : DTS := fun De ρ M => t { De with nx := u De } ρ M
theorem dss_nil : DSs X W [] dNext := impSs pss_nil fun De σ H ⟨z, ρ, M, Dd, hs, hm, h, L⟩ => L.nx _ _ _ _ h hm hs Ext.refl
theorem dss_cons (h1 : DS X W st t) (h2 : DSs X W sts u) : DSs X W (st :: sts) (dSeq t u) :=
  impSs (pss_cons h1 h2) fun De σ H ⟨z, ρ, M, Dd, hs, hm, h, L⟩ =>
    ⟨z, ρ, M, _, hs, hm, h, fun ρ' M' σ' H' q m s e => ⟨z, ρ', M', Dd, s, m, q, L.ext e⟩, L.rt, L.bk, L.ct, L.ex⟩
theorem dss_one (h1 : DS X W st t) : DSs X W [st] t := pss_one h1
theorem ds_pass : DS X W (.Pass pos) dNext := impS ps_pass fun De σ H ⟨z, ρ, M, Dd, hs, hm, h, L⟩ => L.nx _ _ _ _ h hm hs Ext.refl
def dBreak : DTS := fun De ρ M => De.bk ρ M
def dCont : DTS := fun De ρ M => De.ct ρ M
theorem ds_break : DS X W (.Break pos) dBreak := impS ps_break fun De σ H ⟨z, ρ, M, Dd, hs, hm, h, L⟩ => L.bk _ _ _ _ h hm hs Ext.refl
theorem ds_cont : DS X W (.Continue pos) dCont := impS ps_continue fun De σ H ⟨z, ρ, M, Dd, hs, hm, h, L⟩ => L.ct _ _ _ _ h hm hs Ext.refl
def dNever : DTS := fun _ _ _ => False
theorem ds_never : DS X W st dNever := impS ps_never fun De σ H ⟨z, ρ, M, Dd, hs, hm, h, L⟩ => h
def dExpr (te : DTE) : DTS := fun De ρ M => te ρ (fun _ M1 => De.nx ρ M1) De.ex M
theorem ds_expr (he : DE X W e te) (hs : swapsWith e none pos.line X.env = pure false := by rfl) : DS X W (.Expr e pos) (dExpr te) :=
  impS (ps_expr he hs) fun De σ H ⟨z, ρ, M, Dd, hs, hm, h, L⟩ =>
    ⟨z, ρ, M, _, _, hs, hm, h, fun d M1 v H1 h1 m1 r1 e1 => L.nx _ _ _ _ h1 m1 (hs.ext e1) e1, L.ex⟩
def dRet (te : DTE) : DTS := fun De ρ M => te ρ De.rt De.ex M
theorem ds_ret (he : DE X W e te) : DS X W (.Return (some e) pos) (dRet te) :=
  impS (ps_ret he) fun De σ H ⟨z, ρ, M, Dd, hs, hm, h, L⟩ => ⟨z, ρ, M, _, _, hs, hm, h, L.rt, L.ex⟩
def dRetN : DTS := fun De _ M => De.rt .non M
theorem ds_retN : DS X W (.Return none pos) dRetN := impS ps_retN fun De σ H ⟨z, ρ, M, Dd, hs, hm, h, L⟩ => L.rt.here h hm .non
def dIfS (tA : DTT) (t u : DTS) : DTS := fun De ρ M => tA ρ (fun k M1 => if k = true then t De ρ M1 else u De ρ M1) De.ex M
theorem ds_if (hc : DT X W c tA) (ha : DSs X W bs t) (hb : DSs X W cs u) : DS X W (.If c bs cs pos) (dIfS tA t u) :=
  impS (ps_if hc ha hb) fun De σ H ⟨z, ρ, M, Dd, hs, hm, h, L⟩ =>
    ⟨z, ρ, M, _, _, hs, hm, h, fun k M1 H1 h1 m1 e1 => by
      cases k with
      | true => exact iteT ⟨z, ρ, M1, Dd, hs.ext e1, m1, by simpa using h1, L.ext e1⟩
      | false => exact iteF ⟨z, ρ, M1, Dd, hs.ext e1, m1, by simpa using h1, L.ext e1⟩, L.ex⟩
def dSet (i : Nat) (te : DTE) : DTS := fun De ρ M => te ρ (fun d M1 => De.nx (ρ.set i (some d)) M1) De.ex M
theorem ds_set (i : Nat) {x : Str} {pos' : Pos} (hN : X.N.Nodup) (he : DE X W e te) (hi : X.N[i]? = some x := by rfl) (hx : Loc X.env.scope x := by first | exact Or.inl rfl | exact Or.inr rfl) (hs : swapsWith e (some (.Name x pos')) pos.line X.env = pure false := by rfl)
    (hf : X.fn x = true ∨ X.env.scope.names.lookup x = some .local := by first | exact .inl rfl | exact .inr rfl) : DS X W (.Assign [.Name x pos'] e pos) (dSet i te) :=
  impS (ps_set hN hi hx he hs hf) fun De σ H ⟨z, ρ, M, Dd, hs, hm, h, L⟩ =>
    ⟨z, ρ, M, _, _, hs, hm, h, fun d M1 v H1 h1 m1 r1 e1 => L.nx _ _ _ _ h1 m1 ((hs.ext e1).set i r1) e1, L.ex⟩
/-- several targets out of one value -/
def dAsg (p : Pat) (te : DTE) : DTS := fun De ρ M => te ρ (fun d M1 => patW p d ρ De.nx M1) De.ex M
theorem ds_asg {tg : Expr} {p : Pat} (he : DE X W e te) (hg : DG X tg p) (hs : swapsWithSole [tg] e pos.line X.env = pure false := by rfl) (hw : swappedStores [tg] e X.env = pure none := by rfl)
    (h1 : (assignEach [tg] X.env).map (·.2) = [assign tg X.env] := by rfl) : DS X W (.Assign [tg] e pos) (dAsg p te) :=
  impS (ps_asg he hg hs hw h1) fun De σ H ⟨z, ρ, M, Dd, hs, hm, h, L⟩ =>
    ⟨z, ρ, M, _, _, hs, hm, h, fun d M1 v H1 h1 m1 r1 e1 => ⟨z, d, ρ, M1, Dd.nx, r1, hs.ext e1, m1, h1, fun ρ' σ' q s _ => L.nx _ _ _ _ q m1 s e1⟩, L.ex⟩
/-- a, b = x, y -/
def dPar (i j : Nat) (ta : DTA) : DTS := fun De ρ M => ta ρ (fun ds M1 => match ds with | [x, y] => De.nx ((ρ.set i (some x)).set j (some y)) M1 | _ => False) De.ex M
theorem ds_par (i j : Nat) {x y : Str} {px py pt pt2 : Pos} {kt k2 : Nat} {ta : DTA} (hc : X.calm = true) (hN : X.N.Nodup) (ha : DA X W [a, b] ta) (hi : X.N[i]? = some x := by rfl) (hj : X.N[j]? = some y := by rfl) (hij : i ≠ j := by decide)
    (hx : X.env.scope.names.lookup x = some .local := by rfl) (hy : X.env.scope.names.lookup y = some .local := by rfl)
    (hw : swappedStores [.Tuple [.Name x px, .Name y py] kt pt] (.Tuple [a, b] k2 pt2) X.env = pure (some [x, y]) := by rfl)
    (hs : swapsWithSole [.Tuple [.Name x px, .Name y py] kt pt] (.Tuple [a, b] k2 pt2) pos.line X.env = pure false := by rfl) :
    DS X W (.Assign [.Tuple [.Name x px, .Name y py] kt pt] (.Tuple [a, b] k2 pt2) pos) (dPar i j ta) :=
  impS (ps_par hc hN hi hj hij hx hy ha hw hs) fun De σ H ⟨z, ρ, M, Dd, hs, hm, h, L⟩ =>
    ⟨z, ρ, M, _, _, hs, hm, h, fun ds M1 vs H1 h1 m1 r1 e1 => by
      cases r1 with
      | nil => exact (show False from h1).elim
      | cons a1 r1 =>
        cases r1 with
        | nil => exact (show False from h1).elim
        | cons a2 r1 =>
          cases r1 with
          | nil => exact ⟨_, _, rfl, L.nx _ _ _ _ h1 m1 (((hs.ext e1).set i a1).set j a2) e1⟩
          | cons a3 r1 => exact (show False from h1).elim, L.ex⟩
/-- a op= b at a name -/
def PIpD (X : Cx) (op : Operator) (f : D → D → PD → MS → Prop) : Prop :=
  ∃ r, PIp X op r ∧ ∀ z H M x y vx vy R Q, RelM ⟨X.K, z⟩ H M → Rel ⟨X.K, z⟩ H M vx x → Rel ⟨X.K, z⟩ H M vy y → f x y R M → Cont ⟨X.K, z⟩ H M R Q → r vx vy H Q
def dAug (i : Nat) (te : DTE) (f : D → D → PD → MS → Prop) : DTS := fun De ρ M => match sl ρ i with
  | some x => te ρ (fun y M1 => f x y (fun d M2 => De.nx (ρ.set i (some d)) M2) M1) De.ex M
  | none => False
theorem ds_aug (i : Nat) {x : Str} {op : Operator} {f : D → D → PD → MS → Prop} {pos' : Pos} (hN : X.N.Nodup) (he : DE X W e te) (ho : PIpD X op f) (hi : X.N[i]? = some x := by rfl) (hx : Loc X.env.scope x := by first | exact Or.inl rfl | exact Or.inr rfl)
    (hf : X.fn x = true ∨ X.env.scope.names.lookup x = some .local := by first | exact .inl rfl | exact .inr rfl) : DS X W (.AugAssign (.Name x pos') op e pos) (dAug i te f) := by
  obtain ⟨r, hr, ad⟩ := ho
  exact impS (ps_aug hN hi hx he hr hf) fun De σ H ⟨z, ρ, M, Dd, hs, hm, h, L⟩ => by
    have h : (match sl ρ i with
      | some x => te ρ (fun y M1 => f x y (fun d M2 => Dd.nx (ρ.set i (some d)) M2) M1) Dd.ex M
      | none => False) := h
    cases q : sl ρ i with
    | none => rw [q] at h; exact h.elim
    | some d =>
      rw [q] at h
      obtain ⟨v, e1, r1⟩ := hs.2 i d (sl_get q)
      exact ⟨v, e1, z, ρ, M, _, _, hs, hm, h, fun y M1 vy H1 h1 m1 r2 e2 => ad _ _ _ _ _ _ _ _ _ m1 (e2 _ _ r1) r2 h1 fun d' M2 v' H2 h2 m2 r3 e3 => L.nx _ _ _ _ h2 m2 ((hs.ext (e2.trans e3)).set i r3) (e2.trans e3), L.ex⟩
def augI (f : Int → Int → Int) : D → D → PD → MS → Prop
  | .int i, .int j, R, M => R (.int (f i j)) M
  | _, _, _, _ => False
theorem a_ii {op : Operator} {f : Int → Int → Int} (h : PIp X op (ipI f)) : PIpD X op (augI f) := by
  refine ⟨_, h, fun z H M x y vx vy R Q m rx ry h hc => ?_⟩
  unfold augI at h
  split at h
  · cases rx; cases ry
    exact ⟨_, _, rfl, rfl, hc.here h m (.int _)⟩
  · exact h.elim
theorem a_add : PIpD X .Add (augI fun i j => i + j) := a_ii ip_add
theorem a_sub : PIpD X .Sub (augI fun i j => i - j) := a_ii ip_sub

/-- o[i] = e -/
def setLD : D → D → D → (MS → Prop) → MS → Prop
  | .ref a, .int k, d, R, M => ∃ ds j, M a = some (.lst ds) ∧ ixN ds.length k = some j ∧ R (um M a (.lst (ds.set j d)))
  | _, _, _, _, _ => False
def dSub (te to ti : DTE) : DTS := fun De ρ M => te ρ (fun d M1 => to ρ (fun o M2 => ti ρ (fun i M3 => setLD o i d (fun M4 => De.nx ρ M4) M3) De.ex M2) De.ex M1) De.ex M
theorem ds_sub {o i : Expr} {to ti : DTE} {pt : Pos} (he : DE X W e te) (ho : DE X W o to) (hi : DE X W i ti) (hs : swapsWithSole [.Subscript o i pt] e pos.line X.env = pure false := by rfl) (hw : swappedStores [.Subscript o i pt] e X.env = pure none := by rfl)
    (h1 : (assignEach [.Subscript o i pt] X.env).map (·.2) = [assign (.Subscript o i pt) X.env] := by rfl)
    (ha : ∀ v, assign (.Subscript o i pt) X.env v = (do
      let ov ← holding [v] (eval o X.env)
      let iv ← holding [v, ov] (eval i X.env)
      standAt pt
      holding [v, ov, iv] (setItem ov iv v)
      release [v, ov, iv] []) := by intro _; rfl) : DS X W (.Assign [.Subscript o i pt] e pos) (dSub te to ti) :=
  impS (ps_asg he (pg_sub ho hi set_list ha) hs hw h1) fun De σ H ⟨z, ρ, M, Dd, hs, hm, h, L⟩ =>
    ⟨z, ρ, M, _, _, hs, hm, h, fun d M1 v H1 h1 m1 r1 e1 => ⟨z, ρ, M1, _, _, hs.ext e1, m1, h1, fun oo M2 vo H2 h2 m2 r2 e2 =>
      ⟨z, ρ, M2, _, _, hs.ext (e1.trans e2), m2, h2, fun ii M3 vi H3 h3 m3 r3 e3 => by
        have ro := e3 _ _ r2
        have rd := (e2.trans e3) _ _ r1
        cases oo with
        | ref a =>
          cases ii with
          | int k =>
            cases ro; cases r3
            obtain ⟨ds, j, ea, ej, q⟩ := h3
            obtain ⟨vs, eh, ra⟩ := m3.at' _ _ ea
            have w : Ext ⟨X.K, z⟩ H3 M3 (upd H3 a (.lst (vs.set j v))) (um M3 a (.lst (ds.set j d))) := ext_write m3 ea
            exact ⟨_, vs, _, j, rfl, rfl, eh, by rw [ra.length]; exact ej, L.nx _ _ _ _ q (relM_write m3 ea ⟨_, upd_same, w.all (ra.set rd j)⟩) ((hs.ext (e1.trans (e2.trans e3))).ext w) (e1.trans (e2.trans (e3.trans w)))⟩
          | _ => exact (show False from h3).elim
        | _ => exact (show False from h3).elim, (L.ext (e1.trans e2)).ex⟩, (L.ext e1).ex⟩, L.ex⟩
end

/-! ### what is walked -/
abbrev DTI := Sl → (List D → MS → Prop) → XP → MS → Prop
/-- what is hidden stays hidden -/
def HidLe (K K' : ZK) : Prop := K'.K = K.K ∧ ∀ a vs, K.hid a = some vs → K'.hid a = some vs
theorem HidLe.refl (K : ZK) : HidLe K K := ⟨rfl, fun _ _ h => h⟩
structure ItOk (K : ZK) (J : It) (items : List D) (H : Hp) (M : MS) : Prop where
  go : ∀ K' i H' M', HidLe K K' → i < items.length → RelM K' H' M' → ExtX K H M K' H' M' → J.go i H'
  stop : ∀ K' H' M', HidLe K K' → RelM K' H' M' → ExtX K H M K' H' M' → J.stop items.length H'
  yld : ∀ K' i x H' M' H'', HidLe K K' → i < items.length → RelM K' H' M' → ExtX K H M K' H' M' → J.yld i H' x H'' → ∃ d, items[i]? = some d ∧ Rel K' H'' M' x d ∧ RelM K' H'' M' ∧ Ext K' H' M' H'' M'
def liftI (F : PySem.W.Frag) (W : WX) (t : DTI) : TI := fun σ H Q => ∃ (z : Hd) (ρ : Sl) (M : MS) (R : List D → MS → Prop) (E : XP), RelS ⟨F, z⟩ H M σ ρ ∧ RelM ⟨F, z⟩ H M ∧ t ρ R E M ∧
  (∀ items M' H' J, R items M' → RelM ⟨F, z⟩ H' M' → Ext ⟨F, z⟩ H M H' M' → ItOk ⟨F, z⟩ J items H' M' → Q J H') ∧ XOk ⟨F, z⟩ H M W E
abbrev DI (X : Cx) (W : WX) (tg it : Expr) (t : DTI) : Prop := PI X tg it (liftI X.K W t)
theorem impI {X : Cx} {tg e : Expr} {t u : TI} (h : PI X tg e t) (hi : ∀ σ H Q, u σ H Q → t σ H Q) : PI X tg e u := ⟨fun pins s σ H Q I q => h.run pins s σ H Q I (hi σ H Q q)⟩
theorem orI {X : Cx} {tg e : Expr} {t u : TE} {ti ui : TI} (h : PI X tg e ti) : True := trivial
section
variable {K : ZK} {H : Hp} {M : MS}
theorem itOk_list {p : Addr} {ds : List D} (r : Rel K H M (.ref p) (.lst ds)) : ItOk K (Itl K.K p) ds H M where
  go := fun K' i H' M' hk hi m e => by
    cases e _ _ r with
    | lst s ra =>
      obtain ⟨v, a, _⟩ := ra.get (List.getElem?_eq_getElem hi)
      exact ⟨_, v, (hk.1 ▸ s.sq), a⟩
  stop := fun K' H' M' hk m e => by
    cases e _ _ r with
    | lst s ra => exact ⟨_, (hk.1 ▸ s.sq), Nat.le_of_eq ra.length⟩
  yld := fun K' i x H' M' H'' hk hi m e y => by
    obtain ⟨rfl, y⟩ := y
    cases e _ _ r with
    | lst s ra =>
      obtain ⟨d, a, b⟩ := ra.getV (y _ (hk.1 ▸ s.sq))
      exact ⟨d, a, b, m, Ext.refl⟩
theorem itOk_tup {p : Addr} {ds : List D} (r : Rel K H M (.ref p) (.tup ds)) : ItOk K (Itt K.K p) ds H M where
  go := fun K' i H' M' hk hi m e => by
    cases e _ _ r with
    | tup s ra =>
      obtain ⟨v, a, _⟩ := ra.get (List.getElem?_eq_getElem hi)
      exact ⟨_, v, hk.1 ▸ s, a⟩
  stop := fun K' H' M' hk m e => by
    cases e _ _ r with
    | tup s ra => exact ⟨_, hk.1 ▸ s, Nat.le_of_eq ra.length⟩
  yld := fun K' i x H' M' H'' hk hi m e y => by
    obtain ⟨rfl, y⟩ := y
    cases e _ _ r with
    | tup s ra =>
      obtain ⟨d, a, b⟩ := ra.getV (y _ (hk.1 ▸ s))
      exact ⟨d, a, b, m, Ext.refl⟩
/-- a list of the store, locked -/
theorem itOk_lock {p : Addr} {vs : List V} {ds : List D} (h : K.hid p = some (foL vs)) (r : RelA K H M vs ds) : ItOk K (Itl K.K p) ds H M where
  go := fun K' i H' M' hk hi m e => by
    obtain ⟨v, a, _⟩ := r.get (List.getElem?_eq_getElem hi)
    exact ⟨vs, v, SqL.of (m.hid p _ (hk.2 p _ h)).2, a⟩
  stop := fun K' H' M' hk m e => ⟨vs, SqL.of (m.hid p _ (hk.2 p _ h)).2, Nat.le_of_eq r.length⟩
  yld := fun K' i x H' M' H'' hk hi m e y => by
    obtain ⟨rfl, y⟩ := y
    obtain ⟨d, a, b⟩ := (e.all r).getV (y _ (SqL.of (m.hid p _ (hk.2 p _ h)).2))
    exact ⟨d, a, b, m, Ext.refl⟩
def rng (lo : Int) (n : Nat) : List D := (List.range n).map fun (i : Nat) => D.int (lo + i)
theorem itOk_rng {lo : Int} {n : Nat} : ItOk K (Itr lo n) (rng lo n) H M where
  go := fun K' i H' M' hk hi m e => by
    have h : i < n := by simpa [rng] using hi
    exact h
  stop := fun K' H' M' hk m e => by
    show n ≤ (rng lo n).length
    simp [rng]
  yld := fun K' i x H' M' H'' hk hi m e y => by
    obtain ⟨rfl, rfl⟩ := y
    have h : i < n := by simpa [rng] using hi
    refine ⟨.int (lo + i), ?_, .int _, m, Ext.refl⟩
    unfold rng
    rw [List.getElem?_map, List.getElem?_range h]
    rfl
end
section
variable {X : Cx} {W : WX} {a b c e tg it : Expr} {te ta tb : DTE} {tA : DTT} {bs : List Stmt} {t : DTS} {w : DTI} {p : Pat} {pos : Pos}
/-- a list that nobody changes, a tuple -/
def dItems (te : DTE) : DTI := fun ρ R E M => te ρ (fun d M1 => match d with
  | .lst ds => R ds M1
  | .tup ds => R ds M1
  | _ => False) E M
theorem di_items (he : DE X W e te) : DI X W tg e (dItems te) := by
  refine ⟨fun pins s σ H R I ⟨z, ρ, M, R', E, hs, hm, h, hc, hE⟩ => ?_⟩
  refine thn (he.run pins s σ H (fun v H1 => (∃ p vs J, v = .ref p ∧ SqL X.K H1 p vs ∧ J = Itl X.K p ∧ R J H1) ∨ ∃ p vs J, v = .ref p ∧ SqT X.K H1 p vs ∧ J = Itt X.K p ∧ R J H1) I
    ⟨z, ρ, M, _, E, hs, hm, h, fun d M1 v H1 h1 m1 r1 e1 => ?_, hE⟩) fun u s1 ⟨v, H1, I1, ru, q⟩ => ?_
  · cases d with
    | lst ds =>
      cases r1 with
      | lst sq ra => exact .inl ⟨_, _, _, rfl, sq.sq, rfl, hc ds M1 H1 _ h1 m1 e1 (itOk_list (.lst sq ra))⟩
    | tup ds =>
      cases r1 with
      | tup sq ra => exact .inr ⟨_, _, _, rfl, sq, rfl, hc ds M1 H1 _ h1 m1 e1 (itOk_tup (.tup sq ra))⟩
    | _ => exact (show False from h1).elim
  · rcases q with ⟨p, vs, J, rfl, sq, rfl, q⟩ | ⟨p, vs, J, rfl, sq, rfl, q⟩
    · cases ru
      obtain ⟨its, rv, pl, hz⟩ := I1.list sq
      refine wpAny_pyIter_list pl.isList ⟨s1.heap.objs.size, [s1.heap.objs.size], _, _, H1, rfl, I1.kept (t' := s1.toks) fun b o e => Heap.get?_push_of_some _ e, turn_list p _, ⟨_, Heap.get?_push_size _ rfl, rfl, rfl⟩, fun b hb => ?_, q⟩
      rw [List.mem_singleton] at hb
      rw [hb]
      exact I1.fpOk (Nat.le_refl _) (I1.hok.fresh (Nat.le_refl _))
    · cases ru
      obtain ⟨its, rv, pl, hz⟩ := I1.tuple sq
      refine wpAny_pyIter_tuple (show s1.heap.IsTuple p its.toArray from pl) ⟨s1.heap.objs.size, [s1.heap.objs.size], _, _, H1, rfl, I1.kept (t' := s1.toks) fun b o e => Heap.get?_push_of_some _ e, turn_tuple p _, ⟨_, Heap.get?_push_size _ rfl, rfl, rfl⟩, fun b hb => ?_, q⟩
      rw [List.mem_singleton] at hb
      rw [hb]
      exact I1.fpOk (Nat.le_refl _) (I1.hok.fresh (Nat.le_refl _))
/-- range(n), range(a, b) -/
def dRng1 (t : DTA) : DTI := fun ρ R E M => t ρ (fun ds M1 => match ds with
  | [.int j] => -(2 ^ 62) ≤ j ∧ j < 2 ^ 62 ∧ R (rng 0 j.toNat) M1
  | _ => False) E M
def dRng2 (t : DTA) : DTI := fun ρ R E M => t ρ (fun ds M1 => match ds with
  | [.int i, .int j] => (-(2 ^ 62) ≤ i ∧ i < 2 ^ 62 ∧ -(2 ^ 62) ≤ j ∧ j < 2 ^ 62) ∧ R (rng i (j - i).toNat) M1
  | _ => False) E M
theorem di_rng1 {t : DTA} {pp : Pos} (hm : X.mg "range" = none) (ha : DA X W [a] t) (hg : Gl X "range" := by rfl) (hs : starEach [a] X.env = [(false, eval a X.env)] := by rfl) : DI X W tg (.Call (.Name "range" pp) [a] [] pos) (dRng1 t) :=
  impI (pi_range1 hg hm ha hs) fun σ H Q ⟨z, ρ, M, R, E, hs, hm, h, hc, hE⟩ =>
    ⟨z, ρ, M, _, E, hs, hm, h, fun ds M1 vs H1 h1 m1 r1 e1 => by
      split at h1
      · cases r1 with
        | cons x y =>
          cases x; cases y
          exact ⟨_, rfl, h1.1, h1.2.1, hc _ _ _ _ h1.2.2 m1 e1 itOk_rng⟩
      · exact h1.elim, hE⟩
theorem di_rng2 {t : DTA} {pp : Pos} (hm : X.mg "range" = none) (ha : DA X W [a, b] t) (hg : Gl X "range" := by rfl) (hs : starEach [a, b] X.env = [(false, eval a X.env), (false, eval b X.env)] := by rfl) (hs2 : starEach [b] X.env = [(false, eval b X.env)] := by rfl) :
    DI X W tg (.Call (.Name "range" pp) [a, b] [] pos) (dRng2 t) :=
  impI (pi_range2 hg hm ha hs hs2) fun σ H Q ⟨z, ρ, M, R, E, hs, hm, h, hc, hE⟩ =>
    ⟨z, ρ, M, _, E, hs, hm, h, fun ds M1 vs H1 h1 m1 r1 e1 => by
      split at h1
      · cases r1 with
        | cons x y =>
          cases y with
          | cons y y2 =>
            cases x; cases y; cases y2
            exact ⟨_, _, rfl, h1.1, hc _ _ _ _ h1.2 m1 e1 itOk_rng⟩
      · exact h1.elim, hE⟩

/-! ### for, while -/
def forW (p : Pat) (body : DTS) (De : DEnds) : List D → Sl → MS → Prop
  | [], ρ, M => De.nx ρ M
  | d :: ds, ρ, M => patW p d ρ (fun ρ1 M1 => body { De with nx := forW p body De ds, ct := forW p body De ds, bk := De.nx } ρ1 M1) M
def dFor (w : DTI) (p : Pat) (body : DTS) : DTS := fun De ρ M => w ρ (fun items M1 => forW p body De items ρ M1) De.ex M
theorem drop_step {α : Type} (items : List α) (i : Nat) : items.drop i = match items[i]? with | some d => d :: items.drop (i + 1) | none => [] := by
  cases q : items[i]? with
  | none => exact List.drop_eq_nil_of_le (List.getElem?_eq_none_iff.mp q)
  | some d =>
    obtain ⟨hl, e⟩ := List.getElem?_eq_some_iff.mp q
    rw [← e]
    exact List.drop_eq_getElem_cons hl
/-- the loop by its items -/
theorem for_core {z : Hd} {ρ : Sl} {σ : St} {H1 : Hp} {M1 : MS} {J : It} {items : List D} {De : Ends} {Dd : DEnds} (ok : ItOk ⟨X.K, z⟩ J items H1 M1) (hs : RelS ⟨X.K, z⟩ H1 M1 σ ρ) (m1 : RelM ⟨X.K, z⟩ H1 M1)
    (h1 : forW p t Dd items ρ M1) (L : LS ⟨X.K, z⟩ W De Dd H1 M1) : ∃ Wv : Nat → Nat → St → Hp → Prop, (∃ m, Wv 0 m σ H1) ∧ ∀ i m σ H, Wv i m σ H →
      (J.stop i H ∧ De.nx σ H) ∨ (J.go i H ∧ ∃ N : St → Hp → Prop, (∀ σ' H', N σ' H' → ∃ m', m' < m ∧ Wv (i + 1) m' σ' H') ∧ ∀ x H', J.yld i H x H' → liftG X.K p x σ H' fun σ2 H2 => liftS X.K W t { De with nx := N, ct := N, bk := De.nx } σ2 H2) := by
  refine ⟨fun i m σ' H' => m = items.length - i ∧ i ≤ items.length ∧ ∃ ρ' M', RelS ⟨X.K, z⟩ H' M' σ' ρ' ∧ RelM ⟨X.K, z⟩ H' M' ∧ Ext ⟨X.K, z⟩ H1 M1 H' M' ∧ forW p t Dd (items.drop i) ρ' M',
    ⟨items.length, by simp, Nat.zero_le _, ρ, M1, hs, m1, Ext.refl, by rw [List.drop_zero]; exact h1⟩, ?_⟩
  rintro i m σ' H' ⟨rfl, hi, ρ', M', s', m', e', f⟩
  by_cases hlt : i < items.length
  · have q : items[i]? = some items[i] := List.getElem?_eq_getElem hlt
    rw [drop_step items i, q] at f
    refine .inr ⟨ok.go _ i H' M' (HidLe.refl _) hlt m' e', fun σ2 H2 => ∃ ρ2 M2, RelS ⟨X.K, z⟩ H2 M2 σ2 ρ2 ∧ RelM ⟨X.K, z⟩ H2 M2 ∧ Ext ⟨X.K, z⟩ H1 M1 H2 M2 ∧ forW p t Dd (items.drop (i + 1)) ρ2 M2,
      fun σ2 H2 ⟨ρ2, M2, a, b, c, d⟩ => ⟨items.length - (i + 1), by omega, rfl, hlt, ρ2, M2, a, b, c, d⟩, fun x H'' y => ?_⟩
    obtain ⟨d, hd, rd, mm, ee⟩ := ok.yld _ i x H' M' H'' (HidLe.refl _) hlt m' e' y
    rw [q] at hd
    cases hd
    refine ⟨z, _, ρ', M', _, rd, s'.ext ee, mm, f, fun ρ3 σ3 q3 s3 _ => ⟨z, ρ3, M', _, s3, mm, q3, ?_⟩⟩
    have e3 := e'.trans ee
    have L3 := L.ext e3
    exact ⟨fun a b c d p1 p2 p3 p4 => ⟨a, b, p3, p2, e3.trans p4, p1⟩, L3.rt, L3.nx, fun a b c d p1 p2 p3 p4 => ⟨a, b, p3, p2, e3.trans p4, p1⟩, L3.ex⟩
  · have e : i = items.length := by omega
    subst e
    rw [List.drop_length] at f
    exact .inl ⟨ok.stop _ H' M' (HidLe.refl _) m' e', L.nx ρ' M' σ' H' f m' s' e'⟩
theorem ds_for (hp : PassesOwn (model X.prog X.w) X.A X.env X.xe) (hc : X.calm = true) (hi : DI X W tg it w) (hg : DG X tg p) (hb : DSs X W bs t) (hs : ∀ x, foldedSetIterable it X.env x = pure x := by intro _; rfl) :
    DS X W (.For tg it bs [] pos) (dFor w p t) :=
  impS (ps_for hp hc hi hg hb hs) fun De σ H ⟨z, ρ, M, Dd, hs, hm, h, L⟩ =>
    ⟨z, ρ, M, _, _, hs, hm, h, fun items M1 H1 J h1 m1 e1 ok => for_core ok (hs.ext e1) m1 h1 (L.ext e1), L.ex⟩
/-- over a list of the store at the i-th slot: it is locked meanwhile -/
def lockE (a : Addr) (ds : List D) (De : DEnds) : DEnds where
  nx := fun ρ M => De.nx ρ (um M a (.lst ds))
  rt := fun d M => De.rt d (um M a (.lst ds))
  bk := fun ρ M => De.bk ρ (um M a (.lst ds))
  ct := fun ρ M => De.ct ρ (um M a (.lst ds))
  ex := fun x ρ M => De.ex x ρ (um M a (.lst ds))
def dm (M : MS) (a : Addr) : MS := fun b => if b = a then none else M b
theorem dm_same {M : MS} {a : Addr} : dm M a a = none := if_pos rfl
theorem dm_ne {M : MS} {a b : Addr} (h : b ≠ a) : dm M a b = M b := if_neg h
theorem um_dm {M : MS} {a : Addr} {o : MO} (h : M a = some o) : um (dm M a) a o = M := by
  funext b
  by_cases e : b = a
  · subst e; rw [um_same, h]
  · rw [um_ne e, dm_ne e]
theorem dm_um {M : MS} {a : Addr} {o : MO} : dm (um M a o) a = dm M a := by
  funext b
  by_cases e : b = a
  · subst e; rw [dm_same, dm_same]
  · rw [dm_ne e, dm_ne e, um_ne e]
/-- hidden: the list at Da holds vs -/
def zz (z : Hd) (Da : Addr) (vs : List V) : Hd := fun a => if a = Da then some (foL vs) else z a
theorem zz_same {z : Hd} {Da : Addr} {vs : List V} : zz z Da vs Da = some (foL vs) := if_pos rfl
theorem zz_ne {z : Hd} {Da a : Addr} {vs : List V} (h : a ≠ Da) : zz z Da vs a = z a := if_neg h
section
variable {F : PySem.W.Frag} {z : Hd} {H H' : Hp} {M M' : MS} {a : Addr} {vs : List V} {ds : List D}
theorem lock_in (m : RelM ⟨F, z⟩ H M) (ea : M a = some (.lst ds)) (eh : H a = some (.lst vs)) : ExtX ⟨F, z⟩ H M ⟨F, zz z a vs⟩ H (dm M a) ∧ RelM ⟨F, zz z a vs⟩ H (dm M a) := by
  have f : FoExt ⟨F, z⟩ H M ⟨F, zz z a vs⟩ H (dm M a) := fun p o _ s => by
    have ne : p ≠ a := fun q => by
      have n := s.1.1
      rw [q, ea] at n; cases n
    exact ⟨⟨(dm_ne ne).trans s.1.1, (zz_ne ne).trans s.1.2⟩, s.2⟩
  have e : ExtX ⟨F, z⟩ H M ⟨F, zz z a vs⟩ H (dm M a) := by
    exact ExtX.of (fun p xs s => s) f fun p xs s => s
  refine ⟨e, fun b mo q => ?_, fun b ws q => ?_, m.tab.mono f⟩
  · have ne : b ≠ a := fun q2 => by rw [q2, dm_same] at q; cases q
    rw [dm_ne ne] at q
    exact (m.at' b mo q).extX e rfl
  · by_cases hb : b = a
    · subst hb
      rw [show (⟨F, zz z b vs⟩ : ZK).hid b = some (foL vs) from zz_same] at q
      cases q
      exact ⟨dm_same, eh⟩
    · obtain ⟨q1, q2⟩ := m.hid b ws ((zz_ne hb).symm.trans q)
      exact ⟨(dm_ne hb).trans q1, q2⟩
theorem lock_out (hz : z a = none) (m : RelM ⟨F, zz z a vs⟩ H' M') (r : RelA ⟨F, zz z a vs⟩ H' M' vs ds) : ExtX ⟨F, zz z a vs⟩ H' M' ⟨F, z⟩ H' (um M' a (.lst ds)) ∧ RelM ⟨F, z⟩ H' (um M' a (.lst ds)) := by
  have f : FoExt ⟨F, zz z a vs⟩ H' M' ⟨F, z⟩ H' (um M' a (.lst ds)) := fun p o _ s => by
    have ne : p ≠ a := fun q => by
      have n : zz z a vs p = none := s.1.2
      rw [q, zz_same] at n; cases n
    exact ⟨⟨(um_ne ne).trans s.1.1, (zz_ne ne).symm.trans s.1.2⟩, s.2⟩
  have e : ExtX ⟨F, zz z a vs⟩ H' M' ⟨F, z⟩ H' (um M' a (.lst ds)) := by
    exact ExtX.of (fun p xs s => s) f fun p xs s => s
  refine ⟨e, fun b mo q => ?_, fun b ws q => ?_, m.tab.mono f⟩
  · by_cases hb : b = a
    · subst hb
      rw [um_same] at q
      cases q
      exact ⟨vs, (m.hid b _ zz_same).2, e.all r⟩
    · rw [um_ne hb] at q
      exact (m.at' b mo q).extX e rfl
  · have hb : b ≠ a := fun q2 => by
      rw [q2] at q
      rw [show (⟨F, z⟩ : ZK).hid a = none from hz] at q; cases q
    obtain ⟨q1, q2⟩ := m.hid b ws ((zz_ne hb).trans q)
    exact ⟨(um_ne hb).trans q1, q2⟩
theorem relX_ext {K K' : ZK} {cls : Value} {d : Option Addr} {x : Ex} (e : ExtX K H M K' H M') (hK : K'.K = K.K) (hn : ∀ dx gs, H dx = some (.xd gs) → M dx = none → M' dx = none) (r : RelX K H M cls d x) : RelX K' H M' cls d x := by
  obtain ⟨h, dx, gs, h1, h2, h0, h3⟩ := r
  exact ⟨by rw [hK]; exact h, dx, gs, h1, h2, hn dx gs h2 h0, e.keys h3⟩
end
theorem LS.lock {z : Hd} {De : Ends} {Dd : DEnds} {H : Hp} {M : MS} {a : Addr} {vs : List V} {ds : List D} (L : LS ⟨X.K, z⟩ W De Dd H M) (hz : z a = none) (m : RelM ⟨X.K, z⟩ H M) (ea : M a = some (.lst ds)) (eh : H a = some (.lst vs)) (ra : RelA ⟨X.K, z⟩ H M vs ds) :
    LS ⟨X.K, zz z a vs⟩ W De (lockE a ds Dd) H (dm M a) := by
  obtain ⟨e0, m0⟩ := lock_in m ea eh
  have back : ∀ {H' : Hp} {M' : MS}, RelM ⟨X.K, zz z a vs⟩ H' M' → Ext ⟨X.K, zz z a vs⟩ H (dm M a) H' M' → ExtX ⟨X.K, zz z a vs⟩ H' M' ⟨X.K, z⟩ H' (um M' a (.lst ds)) ∧ RelM ⟨X.K, z⟩ H' (um M' a (.lst ds)) ∧ Ext ⟨X.K, z⟩ H M H' (um M' a (.lst ds)) := fun m' e' => by
    obtain ⟨x, m2⟩ := lock_out hz m' (e'.all (e0.all ra))
    exact ⟨x, m2, ExtX.trans e0 (ExtX.trans e' x)⟩
  refine ⟨fun ρ' M' σ' H' q m' s' e' => ?_, fun d M' v H' q m' r' e' => ?_, fun ρ' M' σ' H' q m' s' e' => ?_, fun ρ' M' σ' H' q m' s' e' => ?_, fun x ρ' M' cls d σ' H' q m' s' r' e' => ?_⟩
  · obtain ⟨x, m2, e2⟩ := back m' e'
    exact L.nx _ _ _ _ q m2 (s'.extX x) e2
  · obtain ⟨x, m2, e2⟩ := back m' e'
    exact L.rt _ _ _ _ q m2 (x _ _ r') e2
  · obtain ⟨x, m2, e2⟩ := back m' e'
    exact L.bk _ _ _ _ q m2 (s'.extX x) e2
  · obtain ⟨x, m2, e2⟩ := back m' e'
    exact L.ct _ _ _ _ q m2 (s'.extX x) e2
  · obtain ⟨y, m2, e2⟩ := back m' e'
    exact L.ex _ _ _ _ _ _ _ q m2 (s'.extX y) (relX_ext y rfl (fun dx gs h1 h2 => by
      have ne : dx ≠ a := fun z => by
        have h3 := (m'.hid a _ zz_same).2
        rw [z, h3] at h1
        cases h1
      rw [um_ne ne]; exact h2) r') e2
def dForL (i : Nat) (p : Pat) (body : DTS) : DTS := fun De ρ M => match sl ρ i with
  | some (.ref a) => ∃ ds, M a = some (.lst ds) ∧ forW p body (lockE a ds De) ds ρ (dm M a)
  | _ => False
theorem RelM.hidN {K : ZK} {H : Hp} {M : MS} (m : RelM K H M) {a : Addr} {o : MO} (e : M a = some o) : K.hid a = none := by
  cases q : K.hid a with
  | none => rfl
  | some vs =>
    have z := (m.hid a vs q).1
    rw [e] at z; cases z
theorem ds_forL (i : Nat) {x : Str} {px : Pos} (hp : PassesOwn (model X.prog X.w) X.A X.env X.xe) (hc : X.calm = true) (hg : DG X tg p) (hb : DSs X W bs t) (hN : X.N[i]? = some x := by rfl) (hv : Vis X.env.scope x := by first | exact Or.inl rfl | exact Or.inr (Or.inl rfl) | exact Or.inr (Or.inr rfl))
    (hd : (x == ("__debug__" : Str)) = false := by decide) (hcd : (x == ("__classdict__" : Str)) = false := by decide) (hs : ∀ y, foldedSetIterable (.Name x px) X.env y = pure y := by intro _; rfl) :
    DS X W (.For tg (.Name x px) bs [] pos) (dForL i p t) :=
  impS (ps_for hp hc (pi_list (pe_var hN hv hd hcd)) hg hb hs) fun De σ H ⟨z, ρ, M, Dd, hs, hm, h, L⟩ => by
    unfold dForL at h
    split at h
    · next a q =>
      obtain ⟨ds, ea, f⟩ := h
      obtain ⟨v, e1, r1⟩ := hs.2 i _ (sl_get q)
      cases r1
      obtain ⟨vs, eh, ra⟩ := hm.at' a _ ea
      obtain ⟨e0, m0⟩ := lock_in hm ea eh
      exact ⟨_, e1, a, rfl, ⟨vs, SqL.of eh⟩, for_core (itOk_lock zz_same (e0.all ra)) (hs.extX e0) m0 f (L.lock (hm.hidN ea) hm ea eh ra)⟩
    · exact h.elim
def whileW (tA : DTT) (body : DTS) (De : DEnds) : Nat → Sl → MS → Prop
  | 0, _, _ => False
  | n + 1, ρ, M => tA ρ (fun k M1 => if k = true then body { De with nx := whileW tA body De n, ct := whileW tA body De n, bk := De.nx } ρ M1 else De.nx ρ M1) De.ex M
def dWhile (tA : DTT) (body : DTS) : DTS := fun De ρ M => ∃ n, whileW tA body De n ρ M
theorem ds_while (hp : PassesOwn (model X.prog X.w) X.A X.env X.xe) (hc : DT X W c tA) (hb : DSs X W bs t) : DS X W (.While c bs [] pos) (dWhile tA t) :=
  impS (ps_while hp hc hb) fun De σ H ⟨z, ρ, M, Dd, hs, hm, ⟨n, h⟩, L⟩ => by
    refine ⟨fun n σ' H' => ∃ ρ' M', RelS ⟨X.K, z⟩ H' M' σ' ρ' ∧ RelM ⟨X.K, z⟩ H' M' ∧ Ext ⟨X.K, z⟩ H M H' M' ∧ whileW tA t Dd n ρ' M', ⟨n, ρ, M, hs, hm, Ext.refl, h⟩, ?_⟩
    rintro n σ' H' ⟨ρ', M', s', m', e', f⟩
    cases n with
    | zero => exact (show False from f).elim
    | succ n =>
      refine ⟨z, ρ', M', _, _, s', m', f, fun k M1 H1 h1 m1 e1 => ?_, (L.ext e').ex⟩
      have L1 := L.ext (e'.trans e1)
      cases k with
      | true =>
        refine iteT ⟨fun σ2 H2 => ∃ ρ2 M2, RelS ⟨X.K, z⟩ H2 M2 σ2 ρ2 ∧ RelM ⟨X.K, z⟩ H2 M2 ∧ Ext ⟨X.K, z⟩ H M H2 M2 ∧ whileW tA t Dd n ρ2 M2, fun σ2 H2 q => ⟨n, Nat.lt_succ_self n, q⟩, ?_⟩
        exact ⟨z, ρ', M1, _, s'.ext e1, m1, ofT h1, fun a b c d p1 p2 p3 p4 => ⟨a, b, p3, p2, e'.trans (e1.trans p4), p1⟩, L1.rt, L1.nx, fun a b c d p1 p2 p3 p4 => ⟨a, b, p3, p2, e'.trans (e1.trans p4), p1⟩, L1.ex⟩
      | false => exact iteF (L1.nx _ _ _ _ (ofF h1) m1 (s'.ext e1) Ext.refl)
end
end L2.DL
/-! DLe: comprehensions -/
namespace L2.DL
open PySem PySem.Spec PyProof.Rows
variable [Tbs]

def noX : XP := fun _ _ _ => False
def lcW (p : Pat) (tt : DTT) (te : DTE) (vs : List Nat) (ρ : Sl) (R : List D → MS → Prop) : List D → List D → MS → Prop
  | [], acc, M => R acc M
  | d :: ds, acc, M => patW p d (wipeD ρ vs) (fun ρ1 M1 => tt ρ1 (fun b M2 => if b = true then te ρ1 (fun y M3 => acc.length < sizeLine ∧ lcW p tt te vs ρ R ds (acc ++ [y]) M3) noX M2 else lcW p tt te vs ρ R ds acc M2) noX M1) M
def dLc (w : DTI) (p : Pat) (tt : DTT) (te : DTE) (vs : List Nat) : DTE := fun ρ R E M => w ρ (fun items M1 => lcW p tt te vs ρ (fun acc M2 => R (.lst acc) M2) items [] M1) E M
def dYes : DTT := fun _ R _ M => R true M
abbrev DTs (X : Cx) (W : WX) (ifs : List Expr) (t : DTT) : Prop := PTs X ifs (liftT X.K W t)
abbrev W0 : WX := fun _ _ _ _ => False
section
variable {F : PySem.W.Frag} {z : Hd} {H : Hp} {M : MS} {Da : Addr} {vs us : List V}
theorem hid_new (m : RelM ⟨F, z⟩ H M) (h : H Da = none) : ExtX ⟨F, z⟩ H M ⟨F, zz z Da vs⟩ (upd H Da (.lst vs)) M ∧ RelM ⟨F, zz z Da vs⟩ (upd H Da (.lst vs)) M := by
  have f : FoExt ⟨F, z⟩ H M ⟨F, zz z Da vs⟩ (upd H Da (.lst vs)) M := fun p o _ s => by
    have ne := ne_of_none s.2 h
    exact ⟨⟨s.1.1, (zz_ne ne).trans s.1.2⟩, (upd_ne ne).trans s.2⟩
  have e : ExtX ⟨F, z⟩ H M ⟨F, zz z Da vs⟩ (upd H Da (.lst vs)) M := ExtX.of (fun p xs s => sqT_upd (K := ⟨F, z⟩) s (.inl h)) f fun p xs s => sc_upd (K := ⟨F, z⟩) s (.inl h)
  refine ⟨e, fun a mo q => ?_, fun a ws q => ?_, m.tab.mono f⟩
  · obtain ⟨u, q2, _⟩ := (m.at' a mo q).some
    exact (m.at' a mo q).extX e (upd_ne (ne_of_none q2 h))
  · by_cases ha : a = Da
    · subst ha
      rw [show (⟨F, zz z a vs⟩ : ZK).hid a = some (foL vs) from zz_same] at q
      cases q
      exact ⟨m.free h, upd_same⟩
    · have q' : z a = some ws := (zz_ne ha).symm.trans q
      obtain ⟨q1, q2⟩ := m.hid a ws q'
      exact ⟨q1, (upd_ne ha).trans q2⟩
theorem hid_more (m : RelM ⟨F, zz z Da us⟩ H M) : ExtX ⟨F, zz z Da us⟩ H M ⟨F, zz z Da vs⟩ (upd H Da (.lst vs)) M ∧ RelM ⟨F, zz z Da vs⟩ (upd H Da (.lst vs)) M := by
  obtain ⟨n1, n2⟩ := m.hid Da _ zz_same
  have w : H Da = none ∨ ∃ u, H Da = some u ∧ ∀ ys, u ≠ .tup ys ∧ ∀ ob, u ≠ .frz ob (.tup ys) := .inr ⟨_, n2, fun ys => ⟨fun e => (nomatch e), fun ob e => (nomatch e)⟩⟩
  have f : FoExt ⟨F, zz z Da us⟩ H M ⟨F, zz z Da vs⟩ (upd H Da (.lst vs)) M := fun p o _ s => by
    have ne : p ≠ Da := fun q => by
      have s2 : zz z Da us p = none := s.1.2
      rw [q, zz_same] at s2; cases s2
    exact ⟨⟨s.1.1, (zz_ne ne).trans ((zz_ne ne).symm.trans s.1.2)⟩, (upd_ne ne).trans s.2⟩
  have e : ExtX ⟨F, zz z Da us⟩ H M ⟨F, zz z Da vs⟩ (upd H Da (.lst vs)) M := ExtX.of (fun p xs s => sqT_upd (K := ⟨F, z⟩) s w) f fun p xs s => sc_upd (K := ⟨F, z⟩) s (.inr ⟨_, n2, fun ys ob e => nomatch e⟩)
  refine ⟨e, fun a mo q => ?_, fun a ws q => ?_, m.tab.mono f⟩
  · have ne : a ≠ Da := fun q2 => by rw [q2, n1] at q; cases q
    exact (m.at' a mo q).extX e (upd_ne ne)
  · by_cases ha : a = Da
    · subst ha
      rw [show (⟨F, zz z a vs⟩ : ZK).hid a = some (foL vs) from zz_same] at q
      cases q
      exact ⟨n1, upd_same⟩
    · have q' : zz z Da us a = some ws := (zz_ne ha).trans ((zz_ne ha).symm.trans q)
      obtain ⟨q1, q2⟩ := m.hid a ws q'
      exact ⟨q1, (upd_ne ha).trans q2⟩
theorem hid_drop (hz : z Da = none) (m : RelM ⟨F, zz z Da us⟩ H M) : ExtX ⟨F, zz z Da us⟩ H M ⟨F, z⟩ H M ∧ RelM ⟨F, z⟩ H M := by
  have f : FoExt ⟨F, zz z Da us⟩ H M ⟨F, z⟩ H M := fun p o _ s => by
    have ne : p ≠ Da := fun q => by
      have s2 : zz z Da us p = none := s.1.2
      rw [q, zz_same] at s2; cases s2
    exact ⟨⟨s.1.1, (zz_ne ne).symm.trans s.1.2⟩, s.2⟩
  have e : ExtX ⟨F, zz z Da us⟩ H M ⟨F, z⟩ H M := ExtX.of (fun p xs s => s) f fun p xs s => s
  refine ⟨e, fun a mo q => (m.at' a mo q).extX e rfl, fun a ws q => ?_, m.tab.mono f⟩
  have ne : a ≠ Da := fun q2 => by
    rw [q2] at q
    rw [show (⟨F, z⟩ : ZK).hid Da = none from hz] at q; cases q
  exact m.hid a ws ((zz_ne ne).trans q)
end
section
variable {X : Cx} {W : WX} {elt tg iter : Expr} {ifs : List Expr} {scope : Scope} {own : List (Str × Nat)} {pos : Pos} {w : DTI} {p : Pat} {tt : DTT} {te : DTE}
theorem dts_nil {X : Cx} : DTs X W [] dYes := ⟨fun pins s σ H Q I ⟨z, ρ, M, R, E, hs, hm, h, hc, hE⟩ => pts_nil.run pins s σ H Q I (hc _ _ _ h hm Ext.refl)⟩
theorem dts_one {X : Cx} {c : Expr} {t : DTT} (h : DT X W c t) : DTs X W [c] t := pts_one h
/-- what the uses share: the reading of the loop -/
theorem lc_core' {σ : St} {H1 : Hp} {z : Hd} {ρ : Sl} {M1 : MS} {J : It} {items : List D} {R : List D → MS → Prop} {Q : VK} (ok : ItOk ⟨X.K, z⟩ J items H1 M1) (hs : RelS ⟨X.K, z⟩ H1 M1 σ ρ) (m1 : RelM ⟨X.K, z⟩ H1 M1) (h1 : lcW p tt te (own.map (·.2)) ρ R items [] M1)
    (hp : ∀ i ∈ p.ns, i ∈ own.map (·.2)) (hc : ∀ acc M' v H', R acc M' → RelM ⟨X.K, z⟩ H' M' → Rel ⟨X.K, z⟩ H' M' v (.lst acc) → Ext ⟨X.K, z⟩ H1 M1 H' M' → Q v H') :
    ∀ D, H1 D = none → ∃ Wv : Nat → Nat → Hp → Prop, (∃ m, Wv 0 m (upd H1 D (.lst []))) ∧ ∀ i m H, Wv i m H →
      (J.stop i H ∧ Q (.ref D) H) ∨ (J.go i H ∧ ∃ Nx : Hp → Prop, (∀ H', Nx H' → ∃ m', m' < m ∧ Wv (i + 1) m' H') ∧ ∀ x H', J.yld i H x H' → liftG X.K p x (L2.wipe σ (own.map (·.2))) H' fun σ2 H2 => L2.wipe σ2 (own.map (·.2)) = L2.wipe σ (own.map (·.2)) ∧
        liftT X.K W0 tt σ2 H2 fun b H3 => if b = true then lift X.K W0 te σ2 H3 fun y H4 => ∃ acc, H4 D = some (.lst acc) ∧ acc.length < sizeLine ∧ Nx (upd H4 D (.lst (acc ++ [y]))) else Nx H3) := by
  intro Da hD
  have hz : z Da = none := m1.freeH hD
  obtain ⟨x0, n0⟩ := hid_new (vs := []) m1 hD
  have grow : ∀ {vs : List V}, HidLe ⟨X.K, z⟩ ⟨X.K, zz z Da vs⟩ := fun {vs} => ⟨rfl, fun a ws q => by
    have ne : a ≠ Da := fun q2 => by
      rw [q2] at q
      rw [show (⟨X.K, z⟩ : ZK).hid Da = none from hz] at q; cases q
    exact (zz_ne ne).trans q⟩
  refine ⟨fun i m H' => m = items.length - i ∧ i ≤ items.length ∧ ∃ acc accV M', RelM ⟨X.K, zz z Da accV⟩ H' M' ∧ RelA ⟨X.K, zz z Da accV⟩ H' M' accV acc ∧ ExtX ⟨X.K, z⟩ H1 M1 ⟨X.K, zz z Da accV⟩ H' M' ∧
      lcW p tt te (own.map (·.2)) ρ R (items.drop i) acc M', ⟨items.length, by simp, Nat.zero_le _, [], [], M1, n0, .nil, x0, by rw [List.drop_zero]; exact h1⟩, ?_⟩
  rintro i m H' ⟨rfl, hi, acc, accV, M', m', ra, e', f⟩
  by_cases hlt : i < items.length
  · have q : items[i]? = some items[i] := List.getElem?_eq_getElem hlt
    rw [drop_step items i, q] at f
    refine .inr ⟨ok.go ⟨X.K, zz z Da accV⟩ i H' M' grow hlt m' e', fun H2 => ∃ acc2 accV2 M2, RelM ⟨X.K, zz z Da accV2⟩ H2 M2 ∧ RelA ⟨X.K, zz z Da accV2⟩ H2 M2 accV2 acc2 ∧ ExtX ⟨X.K, z⟩ H1 M1 ⟨X.K, zz z Da accV2⟩ H2 M2 ∧
        lcW p tt te (own.map (·.2)) ρ R (items.drop (i + 1)) acc2 M2, fun H2 q2 => ⟨items.length - (i + 1), by omega, rfl, hlt, q2⟩, fun x H'' y => ?_⟩
    obtain ⟨d, hd, rd, mm, ee⟩ := ok.yld ⟨X.K, zz z Da accV⟩ i x H' M' H'' grow hlt m' e' y
    rw [q] at hd
    cases hd
    have s1 : RelS ⟨X.K, zz z Da accV⟩ H'' M' (L2.wipe σ (own.map (·.2))) (wipeD ρ (own.map (·.2))) := (hs.extX (ExtX.trans e' ee)).wipe _
    refine ⟨zz z Da accV, _, _, M', _, rd, s1, mm, f, fun ρ3 σ3 q3 s3 off => ⟨off.wipe hp, zz z Da accV, ρ3, M', _, _, s3, mm, q3, fun b M4 H4 h4 m4 e4 => ?_, fun _ _ _ _ _ _ _ ff => ff.elim⟩⟩
    cases b with
    | false => exact iteF ⟨acc, accV, M4, m4, (ee.trans e4).all ra, ExtX.trans e' (ExtX.trans ee e4), ofF h4⟩
    | true =>
      refine iteT ⟨zz z Da accV, ρ3, M4, _, _, s3.ext e4, m4, ofT h4, fun yv M5 vy H5 h5 m5 r5 e5 => ?_, fun _ _ _ _ _ _ _ ff => ff.elim⟩
      have ra5 := (ee.trans (e4.trans e5)).all ra
      obtain ⟨x6, m6⟩ := hid_more (vs := accV ++ [vy]) m5
      exact ⟨accV, (m5.hid Da _ zz_same).2, by rw [ra.length]; exact h5.1, acc ++ [yv], accV ++ [vy], M5, m6, (x6.all ra5).append (.cons (x6 _ _ r5) .nil), ExtX.trans e' (ExtX.trans ee (ExtX.trans e4 (ExtX.trans e5 x6))), h5.2⟩
  · have e : i = items.length := by omega
    subst e
    rw [List.drop_length] at f
    obtain ⟨x6, m6⟩ := hid_drop hz m'
    have hh := m'.hid Da _ zz_same
    exact .inl ⟨ok.stop ⟨X.K, zz z Da accV⟩ H' M' grow m' e', hc acc M' (.ref Da) H' f m6 (.lst ⟨⟨hh.1, hz⟩, hh.2⟩ (x6.all ra)) (ExtX.trans e' x6)⟩
theorem lc_read {σ : St} {H : Hp} {z : Hd} {ρ : Sl} {M : MS} {R : List D → MS → Prop} {E : XP} {Q : VK} (hs : RelS ⟨X.K, z⟩ H M σ ρ) (hm : RelM ⟨X.K, z⟩ H M) (h : w ρ (fun items M1 => lcW p tt te (own.map (·.2)) ρ R items [] M1) E M)
    (hp : ∀ i ∈ p.ns, i ∈ own.map (·.2))
    (hc : ∀ acc M' v H', R acc M' → RelM ⟨X.K, z⟩ H' M' → Rel ⟨X.K, z⟩ H' M' v (.lst acc) → Ext ⟨X.K, z⟩ H M H' M' → Q v H') (hE : XOk ⟨X.K, z⟩ H M W E) :
    tLc (liftI X.K W w) (liftG X.K p) (liftT X.K W0 tt) (lift X.K W0 te) (own.map (·.2)) σ H Q :=
  ⟨z, ρ, M, _, E, hs, hm, h, fun items M1 H1 J h1 m1 e1 ok => lc_core' ok (hs.ext e1) m1 h1 hp fun acc M' v H' a b c d => hc acc M' v H' a b c (e1.trans d), hE⟩
/-- over a list of the store at the i-th slot -/
def dLcL (i : Nat) (p : Pat) (tt : DTT) (te : DTE) (vs : List Nat) : DTE := fun ρ R _ M => match sl ρ i with
  | some (.ref a) => ∃ ds, M a = some (.lst ds) ∧ lcW p tt te vs ρ (fun acc M2 => R (.lst acc) (um M2 a (.lst ds))) ds [] (dm M a)
  | _ => False
theorem lc_readL {j : Nat} {σ : St} {H : Hp} {z : Hd} {ρ : Sl} {M : MS} {R : PD} {Q : VK} (hs : RelS ⟨X.K, z⟩ H M σ ρ) (hm : RelM ⟨X.K, z⟩ H M) (h : dLcL j p tt te (own.map (·.2)) ρ R noX M)
    (hp : ∀ i ∈ p.ns, i ∈ own.map (·.2)) (hc : Cont ⟨X.K, z⟩ H M R Q) :
    tLc (iList X.K (tVar j)) (liftG X.K p) (liftT X.K W0 tt) (lift X.K W0 te) (own.map (·.2)) σ H Q := by
  unfold dLcL at h
  split at h
  · next a q =>
    obtain ⟨ds, ea, f⟩ := h
    obtain ⟨v, e1, r1⟩ := hs.2 j _ (sl_get q)
    cases r1
    obtain ⟨vs, eh, ra⟩ := hm.at' a _ ea
    obtain ⟨e0, m0⟩ := lock_in hm ea eh
    refine ⟨_, e1, a, rfl, ⟨vs, SqL.of eh⟩, lc_core' (itOk_lock zz_same (e0.all ra)) (hs.extX e0) m0 f hp fun acc M' v' H' q' m' r' e' => ?_⟩
    obtain ⟨x, m2⟩ := lock_out (hm.hidN ea) m' (e'.all (e0.all ra))
    exact hc _ _ _ _ q' m2 (x _ _ r') (ExtX.trans e0 (ExtX.trans e' x))
  · exact h.elim
theorem de_lc (hc : X.calm = true) (hN : X.N.Nodup) (hi : DI X W tg iter w) (ok : BlkOk X.N X.env.scope scope own) (hp : ∀ i ∈ p.ns, i ∈ own.map (·.2))
    (hg : ∀ (s : Shared) (H : Hp) (C : Addr) (cl : List (Str × Addr)) (fp : List Addr), DG (X.blk s H scope (compEnvC scope cl C X.env) fp) tg p) (ht : ∀ (s : Shared) (H : Hp) (C : Addr) (cl : List (Str × Addr)) (fp : List Addr), DTs (X.blk s H scope (compEnvC scope cl C X.env) fp) W0 ifs tt)
    (he : ∀ (s : Shared) (H : Hp) (C : Addr) (cl : List (Str × Addr)) (fp : List Addr), DE (X.blk s H scope (compEnvC scope cl C X.env) fp) W0 elt te) (hs : ∀ x, foldedSetIterable iter X.env x = pure x := by intro _; rfl) :
    DE X W (.ListComp elt [⟨tg, iter, ifs, 0⟩] scope pos) (dLc w p tt te (own.map (·.2))) :=
  imp (pe_lc hc hN hi ok hg ht he hs) fun σ H Q ⟨z, ρ, M, R, E, hs, hm, h, hc, hE⟩ => lc_read hs hm h hp (fun acc M' v H' a b c d => hc _ _ _ _ a b c d) hE
/-- y = [..] -/
theorem ds_setLc (i : Nat) {y : Str} {py spos : Pos} (hc : X.calm = true) (hN : X.N.Nodup) (hi : DI X W tg iter w) (ok : BlkOk X.N X.env.scope scope own) (hp : ∀ i ∈ p.ns, i ∈ own.map (·.2))
    (hg : ∀ (s : Shared) (H : Hp) (C : Addr) (cl : List (Str × Addr)) (fp : List Addr), DG (X.blk s H scope (compEnvC scope cl C X.env) fp) tg p) (ht : ∀ (s : Shared) (H : Hp) (C : Addr) (cl : List (Str × Addr)) (fp : List Addr), DTs (X.blk s H scope (compEnvC scope cl C X.env) fp) W0 ifs tt)
    (he : ∀ (s : Shared) (H : Hp) (C : Addr) (cl : List (Str × Addr)) (fp : List Addr), DE (X.blk s H scope (compEnvC scope cl C X.env) fp) W0 elt te) (hs : ∀ x, foldedSetIterable iter X.env x = pure x := by intro _; rfl)
    (hy : X.N[i]? = some y := by rfl) (hyl : X.env.scope.names.lookup y = some .local := by rfl)
    (hsw : swapsWith (.ListComp elt [⟨tg, iter, ifs, 0⟩] scope pos) (some (.Name y py)) spos.line X.env = pure true := by exact sw_true rfl rfl rfl (by decide +kernel)) :
    DS X W (.Assign [.Name y py] (.ListComp elt [⟨tg, iter, ifs, 0⟩] scope pos) spos) (dSet i (dLc w p tt te (own.map (·.2)))) :=
  impS (ps_setLc hc hN hy hyl hsw hi ok hg ht he hs) fun De σ H ⟨z, ρ, M, Dd, hs, hm, h, L⟩ =>
    lc_read (R := fun acc M2 => Dd.nx (ρ.set i (some (.lst acc))) M2) hs hm h hp (fun acc M' v H' a b c d => L.nx _ _ _ _ a b ((hs.ext d).set i c) d) L.ex
theorem de_lcL (j : Nat) {x : Str} {px : Pos} (hc : X.calm = true) (hN : X.N.Nodup) (ok : BlkOk X.N X.env.scope scope own) (hp : ∀ i ∈ p.ns, i ∈ own.map (·.2))
    (hg : ∀ (s : Shared) (H : Hp) (C : Addr) (cl : List (Str × Addr)) (fp : List Addr), DG (X.blk s H scope (compEnvC scope cl C X.env) fp) tg p) (ht : ∀ (s : Shared) (H : Hp) (C : Addr) (cl : List (Str × Addr)) (fp : List Addr), DTs (X.blk s H scope (compEnvC scope cl C X.env) fp) W0 ifs tt)
    (he : ∀ (s : Shared) (H : Hp) (C : Addr) (cl : List (Str × Addr)) (fp : List Addr), DE (X.blk s H scope (compEnvC scope cl C X.env) fp) W0 elt te)
    (hx : X.N[j]? = some x := by rfl) (hv : Vis X.env.scope x := by first | exact Or.inl rfl | exact Or.inr (Or.inl rfl) | exact Or.inr (Or.inr rfl)) (hd : (x == ("__debug__" : Str)) = false := by decide) (hcd : (x == ("__classdict__" : Str)) = false := by decide)
    (hs : ∀ y, foldedSetIterable (.Name x px) X.env y = pure y := by intro _; rfl) :
    DE X W (.ListComp elt [⟨tg, .Name x px, ifs, 0⟩] scope pos) (dLcL j p tt te (own.map (·.2))) :=
  imp (pe_lc hc hN (pi_list (pe_var hx hv hd hcd)) ok hg ht he hs) fun σ H Q ⟨z, ρ, M, R, E, hs, hm, h, hc, hE⟩ => lc_readL hs hm h hp hc
theorem ds_setLcL (j i : Nat) {x y : Str} {px py spos : Pos} (hc : X.calm = true) (hN : X.N.Nodup) (ok : BlkOk X.N X.env.scope scope own) (hp : ∀ i ∈ p.ns, i ∈ own.map (·.2))
    (hg : ∀ (s : Shared) (H : Hp) (C : Addr) (cl : List (Str × Addr)) (fp : List Addr), DG (X.blk s H scope (compEnvC scope cl C X.env) fp) tg p) (ht : ∀ (s : Shared) (H : Hp) (C : Addr) (cl : List (Str × Addr)) (fp : List Addr), DTs (X.blk s H scope (compEnvC scope cl C X.env) fp) W0 ifs tt)
    (he : ∀ (s : Shared) (H : Hp) (C : Addr) (cl : List (Str × Addr)) (fp : List Addr), DE (X.blk s H scope (compEnvC scope cl C X.env) fp) W0 elt te)
    (hx : X.N[j]? = some x := by rfl) (hv : Vis X.env.scope x := by first | exact Or.inl rfl | exact Or.inr (Or.inl rfl) | exact Or.inr (Or.inr rfl)) (hd : (x == ("__debug__" : Str)) = false := by decide) (hcd : (x == ("__classdict__" : Str)) = false := by decide)
    (hs : ∀ y, foldedSetIterable (.Name x px) X.env y = pure y := by intro _; rfl)
    (hy : X.N[i]? = some y := by rfl) (hyl : X.env.scope.names.lookup y = some .local := by rfl)
    (hsw : swapsWith (.ListComp elt [⟨tg, .Name x px, ifs, 0⟩] scope pos) (some (.Name y py)) spos.line X.env = pure true := by exact sw_true rfl rfl rfl (by decide +kernel)) :
    DS X W (.Assign [.Name y py] (.ListComp elt [⟨tg, .Name x px, ifs, 0⟩] scope pos) spos) (dSet i (dLcL j p tt te (own.map (·.2)))) :=
  impS (ps_setLc hc hN hy hyl hsw (pi_list (pe_var hx hv hd hcd)) ok hg ht he hs) fun De σ H ⟨z, ρ, M, Dd, hs, hm, h, L⟩ =>
    lc_readL (R := fun d M2 => Dd.nx (ρ.set i (some d)) M2) hs hm h hp (fun acc M' v H' a b c d => L.nx _ _ _ _ a b ((hs.ext d).set i c) d)
end
end L2.DL
/-! DLf: built-ins, methods -/
namespace PySem.AutoSeq1
theorem extTupAny (l : Addr) (its : Array Value) (n : Nat) (b : Addr) (its2 : Array Value) (n2 : Nat) (dd : Option Addr) (ss : Array (Option Value))
    (q0 : ¬(!its.isEmpty && Builtin.List.listTooLong (its.size + its2.size)) = true) (q1 : its.size ≤ sizeLine) (q2 : its.size + its2.size ≤ sizeLine + 1) :
    Meets (Builtin.«list.extend» ⟨[.ref l, .ref b], []⟩) (fun _ R s => s.heap.get? l = some { cls := .type "list", dict := none, data := .seq its n, slots := #[] } ∧
      s.heap.get? b = some { cls := .type "tuple", dict := dd, data := .seq its2 n2, slots := ss } ∧ R (.ok (.ret Value.none)) { s with heap := s.heap.update l (Obj.mapSeq fun x => x ++ its2), toks := s.toks }) :=
  .of_wp fun prog w A R st hst => by
    obtain ⟨hp, g, d, tk, os⟩ := st
    obtain ⟨hl, hb, h⟩ := hst
    have g1 := idx_int
    have g2 := sub_tuple_tuple
    have g3 := sub_list_list
    have g4 := sub_tuple_list
    have g5 := sub_list_tuple
    have hfit : (its ++ its2).size ≤ sizeLine + 1 := by
      rw [Array.size_append]
      exact q2
    wp_walk using (wpAny_updateSeq hl rfl (hz := q1) (_hz' := hfit)), wpAny_loadPart' hl, wpAny_loadPart' hb
    exact ⟨_, rfl, h⟩
end PySem.AutoSeq1
namespace L2.DL
open PySem PySem.Spec PyProof.Rows
variable [Tbs]
section
variable {X : Cx} {W : WX} {a b c e o : Expr} {es : List Expr} {te to : DTE} {t : DTA} {pos apos cpos : Pos}
def CallD (X : Cx) (fv : Value) (f : List D → PD → MS → Prop) : Prop :=
  ∃ r, CallR X fv r ∧ ∀ z H M xs vs R Q, RelM ⟨X.K, z⟩ H M → RelA ⟨X.K, z⟩ H M vs xs → f xs R M → Cont ⟨X.K, z⟩ H M R Q → r vs H Q
def dCB (f : List D → PD → MS → Prop) (t : DTA) : DTE := fun ρ R E M => t ρ (fun xs M1 => f xs R M1) E M
theorem de_callB {id : String} {x : Str} {p : Pos} {f : List D → PD → MS → Prop} (o : CallD X (.builtin id) f) (hm : X.mg x = none) (hv : bootBuiltins x = some (.builtin id)) (ha : DA X W (e :: es) t) (hg : Gl X x := by rfl) (hn : x ≠ "__name__" := by decide) (hdb : (x == ("__debug__" : Str)) = false := by decide)
    (he : starEach (e :: es) X.env = (false, eval e X.env) :: starEach es X.env := by rfl) (hpl : (backTo pos (starEach es X.env)).any (·.1) = false := by rfl) : DE X W (.Call (.Name x p) (e :: es) [] pos) (dCB f t) := by
  obtain ⟨r, ho, ad⟩ := o
  exact imp (pe_callB ho hg hm hv ha hn hdb he hpl) fun σ H Q ⟨z, ρ, M, R, E, hs, hm, h, hc, hE⟩ =>
    ⟨z, ρ, M, _, E, hs, hm, h, fun xs M1 vs H1 h1 m1 r1 e1 => ad _ _ _ _ _ _ _ m1 r1 h1 (hc.ext e1), hE⟩
theorem de_callT {T : String} {x : Str} {p : Pos} {f : List D → PD → MS → Prop} (o : CallD X (.type T) f) (hm : X.mg x = none) (hv : bootBuiltins x = some (.type T)) (ha : DA X W (e :: es) t) (hg : Gl X x := by rfl) (hn : x ≠ "__name__" := by decide) (hdb : (x == ("__debug__" : Str)) = false := by decide)
    (he : starEach (e :: es) X.env = (false, eval e X.env) :: starEach es X.env := by rfl) (hpl : (backTo pos (starEach es X.env)).any (·.1) = false := by rfl) : DE X W (.Call (.Name x p) (e :: es) [] pos) (dCB f t) := by
  obtain ⟨r, ho, ad⟩ := o
  exact imp (pe_callTy ho hg hm hv ha hn hdb he hpl) fun σ H Q ⟨z, ρ, M, R, E, hs, hm, h, hc, hE⟩ =>
    ⟨z, ρ, M, _, E, hs, hm, h, fun xs M1 vs H1 h1 m1 r1 e1 => ad _ _ _ _ _ _ _ m1 r1 h1 (hc.ext e1), hE⟩
theorem CallD.or {fv : Value} {f g : List D → PD → MS → Prop} (h : CallD X fv f) (k : CallD X fv g) : CallD X fv (fun xs R M => f xs R M ∨ g xs R M) := by
  obtain ⟨r, h1, h2⟩ := h
  obtain ⟨r', k1, k2⟩ := k
  exact ⟨_, h1.or k1, fun z H M xs vs R Q m ra q hc => q.elim (fun q => .inl (h2 _ _ _ _ _ _ _ m ra q hc)) fun q => .inr (k2 _ _ _ _ _ _ _ m ra q hc)⟩

/-- len -/
def lenD : List D → PD → MS → Prop
  | [.tup ds], R, M => R (.int ds.length) M
  | [.lst ds], R, M => R (.int ds.length) M
  | [.scr ds], R, M => R (.int ds.length) M
  | [.str x], R, M => x.length ≤ sizeLine ∧ R (.int x.length) M
  | [.ref a], R, M => ∃ ds, M a = some (.lst ds) ∧ R (.int ds.length) M
  | _, _, _ => False
theorem c_len : CallD X (.builtin "len") lenD := by
  refine ⟨_, call_len_seq.or call_len_str, fun z H M xs vs R Q m ra h hc => ?_⟩
  unfold lenD at h
  split at h
  · cases ra with
    | cons x y =>
      cases y
      cases x with
      | tup s r => exact .inl ⟨_, _, rfl, .inr s, by rw [r.length]; exact hc.here h m (.int _)⟩
  · cases ra with
    | cons x y =>
      cases y
      cases x with
      | lst s r => exact .inl ⟨_, _, rfl, .inl s.sq, by rw [r.length]; exact hc.here h m (.int _)⟩
  · cases ra with
    | cons x y =>
      cases y
      cases x with
      | scr s => exact .inl ⟨_, _, rfl, .inl s.sq, by rw [List.length_map]; exact hc.here h m (.int _)⟩
  · cases ra with
    | cons x y =>
      cases y; cases x
      exact .inr ⟨_, rfl, h.1, hc.here h.2 m (.int _)⟩
  · cases ra with
    | cons x y =>
      cases y; cases x
      obtain ⟨ds, ea, q⟩ := h
      obtain ⟨ws, e1, r⟩ := m.at' _ _ ea
      exact .inl ⟨_, _, rfl, .inl (SqL.of e1), by rw [r.length]; exact hc.here q m (.int _)⟩
  · exact h.elim
def absD : List D → PD → MS → Prop
  | [.int i], R, M => R (.int (if i < 0 then -i else i)) M
  | _, _, _ => False
theorem c_abs : CallD X (.builtin "abs") absD := by
  refine ⟨_, call_abs, fun z H M xs vs R Q m ra h hc => ?_⟩
  unfold absD at h
  split at h
  · cases ra with
    | cons x y =>
      cases y; cases x
      exact ⟨_, rfl, hc.here h m (.int _)⟩
  · exact h.elim
/-- min, max: of two ints; of a list of ints -/
def lsInts (M : MS) (d : D) (ns : List Int) : Prop := Ls M d (ns.map D.int)
theorem lsInts_at {z : Hd} {H : Hp} {M : MS} {d : D} {ns : List Int} {v : V} (m : RelM ⟨X.K, z⟩ H M) (s : lsInts M d ns) (r : Rel ⟨X.K, z⟩ H M v d) : ∃ p, v = .ref p ∧ SqL X.K H p (ns.map V.int) := by
  obtain ⟨p, vs, e, h, ra⟩ := ls_at m s r
  exact ⟨p, e, by rw [← ra.ints]; exact SqL.of h⟩
def minD : List D → PD → MS → Prop
  | [.int i, .int j], R, M => R (.int (if j < i then j else i)) M
  | [d], R, M => ∃ ns, lsInts M d ns ∧ 0 < ns.length ∧ ∀ k, k ∈ ns → (∀ y, y ∈ ns → k ≤ y) → R (.int k) M
  | _, _, _ => False
def maxD : List D → PD → MS → Prop
  | [.int i, .int j], R, M => R (.int (if j > i then j else i)) M
  | [d], R, M => ∃ ns, lsInts M d ns ∧ 0 < ns.length ∧ ∀ k, k ∈ ns → (∀ y, y ∈ ns → y ≤ k) → R (.int k) M
  | _, _, _ => False
theorem c_min (hc : X.calm = true) : CallD X (.builtin "min") minD := by
  refine ⟨_, (call_min2 hc).or (cr_min hc), fun z H M xs vs R Q m ra h hc => ?_⟩
  unfold minD at h
  split at h
  · cases ra with
    | cons x y =>
      cases y with
      | cons y y2 =>
        cases x; cases y; cases y2
        exact .inl ⟨_, _, rfl, hc.here h m (.int _)⟩
  · cases ra with
    | cons x y =>
      cases y
      obtain ⟨ns, s, h0, q⟩ := h
      obtain ⟨p, rfl, s2⟩ := lsInts_at m s x
      exact .inr ⟨_, ns, rfl, s2, h0, fun k hk hl => hc.here (q k hk hl) m (.int _)⟩
  · exact h.elim
theorem c_max (hc : X.calm = true) : CallD X (.builtin "max") maxD := by
  refine ⟨_, (call_max2 hc).or (cr_max hc), fun z H M xs vs R Q m ra h hc => ?_⟩
  unfold maxD at h
  split at h
  · cases ra with
    | cons x y =>
      cases y with
      | cons y y2 =>
        cases x; cases y; cases y2
        exact .inl ⟨_, _, rfl, hc.here h m (.int _)⟩
  · cases ra with
    | cons x y =>
      cases y
      obtain ⟨ns, s, h0, q⟩ := h
      obtain ⟨p, rfl, s2⟩ := lsInts_at m s x
      exact .inr ⟨_, ns, rfl, s2, h0, fun k hk hl => hc.here (q k hk hl) m (.int _)⟩
  · exact h.elim
def sumD : List D → PD → MS → Prop
  | [d], R, M => ∃ ns, lsInts M d ns ∧ R (.int ns.sum) M
  | _, _, _ => False
theorem c_sum (hc : X.calm = true) : CallD X (.builtin "sum") sumD := by
  refine ⟨_, cr_sum hc, fun z H M xs vs R Q m ra h hc => ?_⟩
  unfold sumD at h
  split at h
  · cases ra with
    | cons x y =>
      cases y
      obtain ⟨ns, s, q⟩ := h
      obtain ⟨p, rfl, s2⟩ := lsInts_at m s x
      exact ⟨_, ns, rfl, s2, hc.here q m (.int _)⟩
  · exact h.elim
def lsBls (M : MS) (d : D) (bs : List Bool) : Prop := Ls M d (bs.map D.bl)
theorem lsBls_at {z : Hd} {H : Hp} {M : MS} {d : D} {ns : List Bool} {v : V} (m : RelM ⟨X.K, z⟩ H M) (s : lsBls M d ns) (r : Rel ⟨X.K, z⟩ H M v d) : ∃ p, v = .ref p ∧ SqL X.K H p (ns.map V.bl) := by
  obtain ⟨p, vs, e, h, ra⟩ := ls_at m s r
  exact ⟨p, e, by rw [← ra.bls]; exact SqL.of h⟩
def allD : List D → PD → MS → Prop
  | [d], R, M => ∃ bs, lsBls M d bs ∧ R (.bl (bs.all id)) M
  | _, _, _ => False
def anyD : List D → PD → MS → Prop
  | [d], R, M => ∃ bs, lsBls M d bs ∧ R (.bl (bs.any id)) M
  | _, _, _ => False
theorem c_all (hc : X.calm = true) : CallD X (.builtin "all") allD := by
  refine ⟨_, cr_all hc, fun z H M xs vs R Q m ra h hc => ?_⟩
  unfold allD at h
  split at h
  · cases ra with
    | cons x y =>
      cases y
      obtain ⟨ns, s, q⟩ := h
      obtain ⟨p, rfl, s2⟩ := lsBls_at m s x
      exact ⟨_, ns, rfl, s2, hc.here q m (.bl _)⟩
  · exact h.elim
theorem c_any (hc : X.calm = true) : CallD X (.builtin "any") anyD := by
  refine ⟨_, cr_any hc, fun z H M xs vs R Q m ra h hc => ?_⟩
  unfold anyD at h
  split at h
  · cases ra with
    | cons x y =>
      cases y
      obtain ⟨ns, s, q⟩ := h
      obtain ⟨p, rfl, s2⟩ := lsBls_at m s x
      exact ⟨_, ns, rfl, s2, hc.here q m (.bl _)⟩
  · exact h.elim
def intD : List D → PD → MS → Prop
  | [.int i], R, M => R (.int i) M
  | [.bl k], R, M => R (.int (if k then 1 else 0)) M
  | _, _, _ => False
theorem c_int : CallD X (.type "int") intD := by
  refine ⟨_, call_int1, fun z H M xs vs R Q m ra h hc => ?_⟩
  unfold intD at h
  split at h
  · cases ra with
    | cons x y =>
      cases y; cases x
      exact .inl ⟨_, rfl, hc.here h m (.int _)⟩
  · cases ra with
    | cons x y =>
      cases y; cases x
      exact .inr ⟨_, rfl, hc.here h m (.int _)⟩
  · exact h.elim
/-- tuple(..), list(..) of a list or a tuple -/
def Sq (M : MS) : D → List D → Prop
  | .tup ds, e => e = ds
  | d, e => Ls M d e
theorem Sq.ls {M : MS} {d : D} {ds : List D} (h : Sq M d ds) (n : ∀ es, d ≠ .tup es) : Ls M d ds := by
  cases d with
  | tup es => exact absurd rfl (n es)
  | _ => exact h
def tupD : List D → PD → MS → Prop
  | [d], R, M => ∃ ds, Sq M d ds ∧ R (.tup ds) M
  | _, _, _ => False
def lstD : List D → PD → MS → Prop
  | [d], R, M => ∃ ds, Sq M d ds ∧ R (.lst ds) M
  | _, _, _ => False
def lstND : List D → PD → MS → Prop
  | [d], R, M => ∃ ds, Sq M d ds ∧ ∀ p, M p = none → R (.ref p) (um M p (.lst ds))
  | _, _, _ => False
theorem sq_at {K : ZK} {H : Hp} {M : MS} {d : D} {ds : List D} {v : V} (m : RelM K H M) (s : Sq M d ds) (r : Rel K H M v d) : ∃ p vs, v = .ref p ∧ (SqL K.K H p vs ∨ (SqT K.K H p vs ∧ d = .tup ds)) ∧ RelA K H M vs ds := by
  cases d with
  | tup es =>
    have s' : ds = es := s
    subst s'
    cases r with
    | tup a b => exact ⟨_, _, rfl, .inr ⟨a, rfl⟩, b⟩
  | _ =>
    obtain ⟨p, vs, e, h, ra⟩ := ls_at (ds := ds) m (s.ls fun _ z => (nomatch z)) r
    exact ⟨p, vs, e, .inl (SqL.of h), ra⟩
theorem c_tup : CallD X (.type "tuple") tupD := by
  refine ⟨_, call_tuple_of, fun z H M xs vs R Q m ra h hc => ?_⟩
  unfold tupD at h
  split at h
  · cases ra with
    | cons x y =>
      cases y
      obtain ⟨ds, s, q⟩ := h
      obtain ⟨p, ws, rfl, sq, r⟩ := sq_at m s x
      refine ⟨p, ws, rfl, ?_⟩
      rcases sq with sq | ⟨sq, e⟩
      · exact .inl ⟨sq, fun l hl => hc _ _ _ _ q (relM_new m hl) (.tup (SqT.of upd_same) ((ext_new m hl).all r)) (ext_new m hl)⟩
      · subst e
        exact .inr ⟨sq, hc.here q m x⟩
  · exact h.elim
theorem c_lst : CallD X (.type "list") lstD := by
  refine ⟨_, call_list_of, fun z H M xs vs R Q m ra h hc => ?_⟩
  unfold lstD at h
  split at h
  · cases ra with
    | cons x y =>
      cases y
      obtain ⟨ds, s, q⟩ := h
      obtain ⟨p, ws, rfl, sq, r⟩ := sq_at m s x
      exact ⟨p, ws, rfl, sq.elim .inl fun k => .inr k.1, fun l hl => hc _ _ _ _ q (relM_new m hl) (.lst (fz_new m hl) ((ext_new m hl).all r)) (ext_new m hl)⟩
  · exact h.elim
theorem c_lstN : CallD X (.type "list") lstND := by
  refine ⟨_, call_list_of, fun z H M xs vs R Q m ra h hc => ?_⟩
  unfold lstND at h
  split at h
  · cases ra with
    | cons x y =>
      cases y
      obtain ⟨ds, s, q⟩ := h
      obtain ⟨p, ws, rfl, sq, r⟩ := sq_at m s x
      exact ⟨p, ws, rfl, sq.elim .inl fun k => .inr k.1, fun l hl => hc _ _ _ _ (q l (m.free hl)) (alloc_lst m hl r) (.ref l) (ext_alloc m hl)⟩
  · exact h.elim
/-- repr -/
def reprOk (p : PyData) : Prop := p.showable = true ∧ p.canLay0 = true ∧ p.shown.length ≤ sizeLine ∧ p.depth ≤ 60
def reprD : List D → PD → MS → Prop
  | [d], R, M => ∃ e, Sees M d e ∧ isP e = true ∧ reprOk (pd e) ∧ R (.str (pd e).shown) M
  | _, _, _ => False
theorem c_repr (hG : X.A.guards = some []) (hu : X.A.units + 64 < cLine) : CallD X (.builtin "repr") reprD := by
  refine ⟨fun vs H Q => ∃ v p, vs = [v] ∧ Dp X.K H v p ∧ reprOk p ∧ Q (.str p.shown) H, ?_, fun z H M xs vs R Q m ra h hc => ?_⟩
  · intro pins s σ H xs us Q I r h
    obtain ⟨v, p, rfl, hd, ⟨h1, h2, h3, h4⟩, q⟩ := h
    obtain ⟨u, rfl, ru⟩ := vals1 r
    obtain ⟨as, hr⟩ := Dp.reads I p v u hd ru
    have nd := PyData.hasDict_of_canLay p h2
    cases hd with
    | non => cases ru; exact PySem.P.repr_of_none ⟨.str _, H, I.tok _, ⟨_, rfl⟩, q⟩
    | bl b =>
      cases ru
      refine PySem.P.repr_of_bool ⟨.str _, H, I.tok _, ⟨_, rfl⟩, ?_⟩
      cases b <;> exact q
    | int i =>
      obtain ⟨t, rfl⟩ := ru
      exact PySem.P.repr_of_int (by simpa [PyData.showable] using h1) ⟨.str _, H, I.tok _, ⟨_, rfl⟩, q⟩
    | str x =>
      obtain ⟨t, rfl⟩ := ru
      exact PySem.P.repr_of_str ⟨.str _, H, I.tok _, ⟨_, rfl⟩, q⟩ (by simpa [PyData.shown] using h3)
    | lst sq ra =>
      cases ru
      exact repr_of_reads' hr h1 (PyData.noDict_hsm nd) hG (by omega) (fun _ _ e => e) (fun h' u tk k => ⟨.str _, H, I.kept k, ⟨_, rfl⟩, q⟩) h3
    | tup sq ra =>
      cases ru
      exact repr_of_reads' hr h1 (PyData.noDict_hsm nd) hG (by omega) (fun _ _ e => e) (fun h' u tk k => ⟨.str _, H, I.kept k, ⟨_, rfl⟩, q⟩) h3
  · unfold reprD at h
    split at h
    · cases ra with
      | cons x y =>
        cases y
        obtain ⟨e, s, ip, ok, q⟩ := h
        exact ⟨_, _, rfl, dp_sees m s ip x, ok, hc.here q m (.str _)⟩
    · exact h.elim

/-! ### methods of lists of the store -/
def MtD (X : Cx) (id : String) (f : D → List D → PD → MS → Prop) : Prop :=
  ∃ r, MtR X id r ∧ ∀ z H M x xs v vs R Q, RelM ⟨X.K, z⟩ H M → Rel ⟨X.K, z⟩ H M v x → RelA ⟨X.K, z⟩ H M vs xs → f x xs R M → Cont ⟨X.K, z⟩ H M R Q → r v vs H Q
def isL (M : MS) : D → Prop
  | .ref a => ∃ ds, M a = some (.lst ds)
  | .lst _ => True
  | _ => False
def dMt (f : D → List D → PD → MS → Prop) (to : DTE) (t : DTA) : DTE := fun ρ R E M => to ρ (fun x M1 => isL M1 x ∧ t ρ (fun xs M2 => f x xs R M2) E M1) E M
theorem isL_at {K : ZK} {H : Hp} {M : MS} {d : D} {v : V} (m : RelM K H M) (s : isL M d) (r : Rel K H M v d) : tyV K.K "list" v H := by
  cases d with
  | ref a =>
    cases r
    obtain ⟨ds, e⟩ := s
    obtain ⟨vs, e2, _⟩ := m.at' _ _ e
    exact .inl ⟨rfl, _, SqL.of e2⟩
  | lst ds =>
    cases r with
    | lst a b => exact .inl ⟨rfl, _, a.sq⟩
  | _ => exact (show False from s).elim
theorem de_mtL {name : Str} {id : String} {f : D → List D → PD → MS → Prop} (slot : Slot "list" name id) (hty : typeOf (.builtin id) = pure (.type "method_descriptor")) (hm : MtD X id f) (ho : DE X W o to) (ha : DA X W (e :: es) t)
    (hbase : attributeBase o name X.env (eval o X.env) = eval o X.env := by rfl)
    (hfew : ((backTo cpos (starEach (e :: es) X.env)).all (fun x => !x.1) && (backToKw cpos (keywordEach [] X.env)).all (fun x => x.1.isSome)
      && decide ((e :: es).length + ([] : List Keyword).length + (if ([] : List Keyword).isEmpty then 0 else 1) < 30)) = true := by rfl)
    (hline : (apos.endLine == cpos.line) = true := by rfl) (hs : starEach (e :: es) X.env = (false, eval e X.env) :: starEach es X.env := by rfl) (hplain : (backTo cpos (starEach es X.env)).any (·.1) = false := by rfl) :
    DE X W (.Call (.Attribute o name apos) (e :: es) [] cpos) (dMt f to t) := by
  obtain ⟨r, hr, ad⟩ := hm
  exact imp (pe_bm PySem.F.plainAttrs_list slot hty hr ho ha hbase hfew hline hs hplain) fun σ H Q ⟨z, ρ, M, R, E, hs, hm, h, hc, hE⟩ =>
    ⟨z, ρ, M, _, E, hs, hm, h, fun x M1 v H1 h1 m1 r1 e1 => ⟨isL_at m1 h1.1 r1, z, ρ, M1, _, E, hs.ext e1, m1, h1.2, fun xs M2 vs H2 h2 m2 r2 e2 => ad _ _ _ _ _ _ _ _ _ m2 (e2 _ _ r1) r2 h2 (hc.ext (e1.trans e2)), hE.ext e1⟩, hE⟩
def appD : D → List D → PD → MS → Prop
  | .ref a, [y], R, M => ∃ ds, M a = some (.lst ds) ∧ ds.length < sizeLine ∧ R .non (um M a (.lst (ds ++ [y])))
  | _, _, _, _ => False
theorem write_lst {K : ZK} {H : Hp} {M : MS} {a : Addr} {ds es : List D} {vs : List V} (m : RelM K H M) (ea : M a = some (.lst es)) (r : RelA K H M vs ds) : RelM K (upd H a (.lst vs)) (um M a (.lst ds)) :=
  relM_write m ea ⟨vs, upd_same, (ext_write m ea).all r⟩
theorem m_append : MtD X "list.append" appD := by
  refine ⟨_, mt_append, fun z H M x xs v vs R Q m rx ra h hc => ?_⟩
  unfold appD at h
  split at h
  · cases rx
    cases ra with
    | cons r1 r2 =>
      cases r2
      obtain ⟨ds, ea, hz, q⟩ := h
      obtain ⟨ws, e1, r⟩ := m.at' _ _ ea
      exact ⟨_, ws, _, rfl, rfl, e1, by rw [r.length]; exact hz, hc _ _ _ _ q (write_lst m ea (r.append (.cons r1 .nil))) .non (ext_write m ea)⟩
  · exact h.elim
theorem mt_extendT : MtR X "list.extend" (fun x vs H Q => ∃ l b xs zs, x = .ref l ∧ vs = [.ref b] ∧ H l = some (.lst xs) ∧ SqT X.K H b zs ∧ xs.length + zs.length ≤ sizeLine ∧ Q .non (upd H l (.lst (xs ++ zs)))) := by
  intro pins s σ H x vs v us Q I rx rv h
  obtain ⟨l, b, xs, zs, rfl, rfl, hH, hB, hz, q⟩ := h
  cases rx
  obtain ⟨u, rfl, ru⟩ := rv.one
  cases ru
  obtain ⟨zl, its, n, r, hl, e⟩ := I.lstM hH
  obtain ⟨its2, r2, ⟨ob, e2, c2, n2, d2⟩, z2⟩ := I.tuple hB
  have l1 := r.length
  have l2 := r2.length
  obtain ⟨oc, od, odata, osl⟩ := ob
  cases c2
  cases d2
  have fit : its.toArray.size + its2.toArray.size ≤ sizeLine := by simp only [List.size_toArray]; omega
  have short : ¬ (!its.toArray.isEmpty && Builtin.List.listTooLong (its.toArray.size + its2.toArray.size)) = true := by
    rw [notLongL fit, Bool.and_false]
    exact Bool.false_ne_true
  refine call_meets F.slot_list_extend ⟨_, e, rfl⟩ F.entry_list_extend (F.args_list_extend_2 _ _) (AutoSeq1.extTupAny l its.toArray n b its2.toArray n2 od osl short (by simp only [List.size_toArray]; omega) (by omega)) ⟨e, e2, ?_⟩
  exact ⟨.non, _, I.lset (its' := its ++ its2) hH e (by simp) (r.append r2) (by rw [List.length_append]; omega), rfl, q⟩
def extD : D → List D → PD → MS → Prop
  | .ref a, [y], R, M => ∃ ds es, M a = some (.lst ds) ∧ Sq M y es ∧ ds.length + es.length ≤ sizeLine ∧ R .non (um M a (.lst (ds ++ es)))
  | _, _, _, _ => False
theorem m_extend : MtD X "list.extend" extD := by
  refine ⟨_, (show MtR X "list.extend" rExtend from mt_extend).or mt_extendT, fun z H M x xs v vs R Q m rx ra h hc => ?_⟩
  cases x with
  | ref a =>
    cases xs with
    | nil => exact (show False from h).elim
    | cons y ys =>
      cases ys with
      | cons _ _ => exact (show False from h).elim
      | nil =>
        cases rx
        cases ra with
        | cons r1 r2 =>
          cases r2
          obtain ⟨ds, es, ea, sq, hz, q⟩ := h
          obtain ⟨ws, e1, r⟩ := m.at' _ _ ea
          obtain ⟨p, us, rfl, sq2, rt⟩ := sq_at m sq r1
          rcases sq2 with sq2 | ⟨sq2, _⟩
          · cases y with
            | tup fs =>
              cases r1 with
              | tup st rt2 =>
                have s' : es = fs := sq
                subst s'
                exact .inr ⟨_, _, ws, _, rfl, rfl, e1, st, by rw [r.length, rt2.length]; exact hz, hc _ _ _ _ q (write_lst m ea (r.append rt2)) .non (ext_write m ea)⟩
            | _ =>
              obtain ⟨p, us, e, h, rt⟩ := ls_at (ds := es) m (sq.ls fun _ z => (nomatch z)) r1
              cases e
              exact .inl ⟨_, _, ws, _, rfl, rfl, e1, h, by rw [r.length, rt.length]; exact hz, hc _ _ _ _ q (write_lst m ea (r.append rt)) .non (ext_write m ea)⟩
          · exact .inr ⟨_, _, ws, _, rfl, rfl, e1, sq2, by rw [r.length, rt.length]; exact hz, hc _ _ _ _ q (write_lst m ea (r.append rt)) .non (ext_write m ea)⟩
  | _ => exact (show False from h).elim
end
end L2.DL
/-! DLg: defs: what they promise, their calls, the law's own end -/
namespace L2.DL
open PySem PySem.Spec PyProof.Rows
variable [Tbs]

abbrev G := List D → PD → (Ex → MS → Prop) → MS → Prop
def spD (F : PySem.W.Frag) (g : G) : Sp := fun vs H Q E => ∃ (z : Hd) (ds : List D) (M : MS) (R : PD) (RE : Ex → MS → Prop), RelA ⟨F, z⟩ H M vs ds ∧ RelM ⟨F, z⟩ H M ∧ g ds R RE M ∧ Cont ⟨F, z⟩ H M R Q ∧
  ∀ x M' cls d H', RE x M' → RelM ⟨F, z⟩ H' M' → RelX ⟨F, z⟩ H' M' cls d x → Ext ⟨F, z⟩ H M H' M' → E cls d H'
/-- as FnOk, where no repr runs around -/
structure FnD (P : Program) (w : World) (F : PySem.W.Frag) (mg : Str → Option Value) (base : Heap) (k : Nat) (f : Addr) (fd : FuncData) (ps : List Str) (g : G) : Prop where
  len : ∀ ds R E M, g ds R E M → ds.length = ps.length
  run : ∀ (A : Around) (outer : List Env) (s : Shared) (H : Hp) (args : Args) (us : List Value) (vs : List V) (Q : VK) (E : XK), Room k A → A.guards = some [] → Env0 P w F mg base A outer s H →
    BindsTo s fd args (ps.zip us) → Vals vs us → spD F g vs H Q E → codeAny (model P w) A (.call (.ref f) args) (CR (L2.CX P w) outer P w H s Q E) s

/-- what is told may be told with less of the store -/
def Wk (M : MS) (d : D) (M' : MS) (d' : D) : Prop := Le M' M ∧ ∀ K H v, RelM K H M → Rel K H M v d → Rel K H M' v d'
theorem Wk.refl (M : MS) (d : D) : Wk M d M d := ⟨Le.refl M, fun _ _ _ _ r => r⟩
theorem Wk.le {M M' : MS} {d : D} (l : Le M' M) : Wk M d M' d := ⟨l, fun _ _ v _ r => Ext.le l v d r⟩
theorem Wk.frz {M M' : MS} {a : Addr} {ds : List D} (l : Le M' M) (ea : M a = some (.lst ds)) (na : M' a = none) : Wk M (.ref a) M' (.lst ds) := by
  refine ⟨l, fun K H v m r => ?_⟩
  cases r
  obtain ⟨vs, e, ra⟩ := m.at' a _ ea
  refine .lst ⟨⟨na, ?_⟩, e⟩ ((Ext.le l).all ra)
  cases q : K.hid a with
  | none => rfl
  | some ws =>
    have z := (m.hid a ws q).1
    rw [ea] at z; cases z
/-- pairs of such -/
theorem Wk.tup2 {M M' : MS} {a b a' b' : D} (h : Wk M a M' a') (k : Wk M b M' b') : Wk M (.tup [a, b]) M' (.tup [a', b']) := by
  refine ⟨h.1, fun K H v m r => ?_⟩
  cases r with
  | tup s ra =>
    cases ra with
    | cons r1 ra =>
      cases ra with
      | cons r2 ra =>
        cases ra
        exact .tup s (.cons (h.2 K H _ m r1) (.cons (k.2 K H _ m r2) .nil))
def Rw (R : PD) (d : D) (M : MS) : Prop := ∃ d' M', Wk M d M' d' ∧ R d' M'
theorem Rw.of {R : PD} {d : D} {M : MS} (h : R d M) : Rw R d M := ⟨d, M, Wk.refl M d, h⟩
theorem Rw.le {R : PD} {d : D} {M M' : MS} (h : R d M') (l : Le M' M) : Rw R d M := ⟨d, M', Wk.le l, h⟩
theorem Rw.frz {R : PD} {a : Addr} {ds : List D} {M M' : MS} (h : R (.lst ds) M') (l : Le M' M) (ea : M a = some (.lst ds)) (na : M' a = none) : Rw R (.ref a) M := ⟨_, M', Wk.frz l ea na, h⟩
def ends (R : PD) (RE : Ex → MS → Prop) : DEnds where
  nx := fun _ M => Rw R .non M
  rt := Rw R
  ex := fun x _ M => ∃ M', Le M' M ∧ RE x M'
theorem relX_le {K : ZK} {H : Hp} {M M' : MS} {cls : Value} {d : Option Addr} {x : Ex} (l : Le M' M) (r : RelX K H M cls d x) : RelX K H M' cls d x := by
  obtain ⟨e, dx, gs, h1, h2, h0, h3⟩ := r
  refine ⟨e, dx, gs, h1, h2, ?_, (Ext.le l).keys h3⟩
  cases q : M' dx with
  | none => rfl
  | some u => rw [l dx u q] at h0; cases h0

section
variable {P : Program} {w : World} {K : PySem.W.Frag} {mg : Str → Option Value} {base : Heap}
abbrev WB (E : XK) : WX := fun cls d _ H => E cls d H
/-- THE RULE for a def: its body read over data -/
theorem FnD.of {x qual : Str} {st : Stmt} {f : Addr} {fd : FuncData} {N ps : List Str} {k : Nat} {g : G} {tb : DTS} (F : L2.Fun K x qual st f fd) (S : FnScope N ps (defScope st)) (len : ∀ ds R E M, g ds R E M → ds.length = ps.length)
    (hb : ∀ (cdv : Value) (A : Around) (outer : List Env) (s : Shared) (H : Hp) (E : XK), Room k (A.deeper (envOfC qual (defScope st) s.heap.objs.size f cdv)) → (A.deeper (envOfC qual (defScope st) s.heap.objs.size f cdv)).guards = some [] →
      DSs (cxOf (L2.CX P w) P w K mg base N qual (defScope st) f cdv A outer s H E) (WB E) (defBody st) tb)
    (hg : ∀ ds R RE M, g ds R RE M → tb (ends R RE) (startD N ds) M) : FnD P w K mg base (k + 1) f fd ps g := by
  obtain ⟨oc, od, kV, doc, pm, an, cdv, ct, osl, rfl, lk, hcd⟩ := F.ex
  refine ⟨len, fun A outer s H args us vs Q E hr hG e0 hbd r hsp => ?_⟩
  obtain ⟨z, ds, M, R, RE, ra, rm, hgg, hcont, hex⟩ := hsp
  have hl : vs.length = ps.length := ra.length.trans (len _ _ _ _ hgg)
  have nl : ds.length ≤ N.length := by
    have z := congrArg List.length S.pre
    rw [List.length_take] at z
    have z2 := len _ _ _ _ hgg
    omega
  have kx : K.In s.heap := e0.mod.kin.keeps fun b o e => (e0.bs b o e).1
  have nolim : s.heap.NoLimit := e0.mod.nolimit.keeps fun b o e => (e0.bs b o e).1
  have kinds : ∀ y ∈ ps.zip us, (defScope st).names.lookup y.1 = some .local ∨ ((defScope st).names.lookup y.1 = some .cell ∧ ((cellsFrom (s.heap.objs.size + 1) (defScope st).names []).lookup y.1).isSome = true) := by
    rintro ⟨n, v⟩ hy
    rcases S.par n (List.of_mem_zip hy).1 with q | q
    · exact .inl q
    · exact .inr ⟨q, PySem.W.cellsFrom_some _ _ _ (.inl q)⟩
  refine codeAny_call_function hr.depth (kx _ _ lk) rfl S.co S.gen rfl (PySem.W.codeRec_of kx hcd) (hbd _ _ _ _ ?_)
  refine wpAny_newFunctionEnv_cells S.kind kinds fun env he s1 xc => ?_
  subst he
  refine ⟨nolim.keeps xc.toInCall.keep, codeAny_func ?_⟩
  have T := hb cdv A outer s H E (hr.deeper _) hG
  have I : Inv (cxOf (L2.CX P w) P w K mg base N qual (defScope st) f cdv A outer s H E) [] (L2.start N vs) H s1 := inv_start S hr.hd e0 hl r xc
  have reading : liftS K (WB E) tb { nx := fun _ H' => Q .non H', rt := Q } (L2.start N vs) H := by
    refine ⟨z, startD N ds, M, ends R RE, relS_start ra nl, rm, hg ds R RE M hgg, ?_, ?_, ?_, ?_, ?_⟩
    · rintro ρ' M' σ' H' ⟨d', M2, wk, q⟩ m s e
      exact hcont d' M2 .non H' q (m.le wk.1) (wk.2 _ H' _ m .non) (e.trans (Ext.le wk.1))
    · rintro d M' v H' ⟨d', M2, wk, q⟩ m r e
      exact hcont d' M2 v H' q (m.le wk.1) (wk.2 _ H' _ m r) (e.trans (Ext.le wk.1))
    · intro _ _ _ _ q
      exact q.elim
    · intro _ _ _ _ q
      exact q.elim
    · rintro x ρ' M' cls d σ' H' ⟨M2, l, q⟩ m s rx e
      exact hex x M2 cls d H' q (m.le l) (relX_le l rx) (e.trans (Ext.le l))
  refine wpAny_mono (T.run [] s1 (L2.start N vs) H _ I reading) (fun fl s' hs => ?_) fun e s' hs => hs
  have fin : ∀ {σ' : St} {H' : Hp} {v : V} {u : Value}, Inv (cxOf (L2.CX P w) P w K mg base N qual (defScope st) f cdv A outer s H E) [] σ' H' s' → RelV v u → Q v H' → CE outer P w H s Q u s' :=
    fun {σ' H' v u} J rv q => ⟨v, H', J.os, J.bare, J.base, J.hok, rv, q⟩
  cases fl with
  | ret u =>
    obtain ⟨v, σ', H', J, rv, q⟩ := hs
    exact fin J rv q
  | next =>
    obtain ⟨σ', H', J, q⟩ := hs
    exact fin (v := .non) (u := .none) J rfl q
  | brk => exact (let ⟨_, _, _, q⟩ := hs; q.elim)
  | cont => exact (let ⟨_, _, _, q⟩ := hs; q.elim)
/-- a weaker promise -/
theorem FnD.imp {f : Addr} {fd : FuncData} {ps : List Str} {k : Nat} {g g' : G} (F : FnD P w K mg base k f fd ps g) (h : ∀ ds R E M, g' ds R E M → g ds R E M) : FnD P w K mg base k f fd ps g' :=
  ⟨fun ds R E M q => F.len ds R E M (h _ _ _ _ q), fun A outer s H args us vs Q E hr hG e0 hb hv ⟨z, ds, M, R, RE, a, b, c, d, e⟩ => F.run A outer s H args us vs Q E hr hG e0 hb hv ⟨z, ds, M, R, RE, a, b, h _ _ _ _ c, d, e⟩⟩
theorem FnD.mono {f : Addr} {fd : FuncData} {ps : List Str} {j k : Nat} {g : G} (F : FnD P w K mg base j f fd ps g) (h : j ≤ k) : FnD P w K mg base k f fd ps g :=
  ⟨F.len, fun A outer s H args us vs Q E hr => F.run A outer s H args us vs Q E (hr.mono h)⟩

/-- a def of the text by its name -/
structure Tx (K : PySem.W.Frag) (mg : Str → Option Value) (x : Str) (st : Stmt) : Prop where
  ex : ∃ f fd, mg x = some (.ref f) ∧ L2.Fun K x x st f fd
/-- a def of the text, with what it promises -/
structure Df (P : Program) (w : World) (K : PySem.W.Frag) (mg : Str → Option Value) (base : Heap) (x : Str) (ps : List Str) (k : Nat) (g : G) : Prop where
  ex : ∃ f fd, mg x = some (.ref f) ∧ PySem.W.keepIn K (.ref f) = true ∧ Binds K fd ps [] ∧ FnD P w K mg base k f fd ps g
theorem Df.of {x : Str} {st : Stmt} {N ps : List Str} {k : Nat} {g : G} {tb : DTS} (T : Tx K mg x st) (S : FnScope N ps (defScope st))
    (bd : ∀ (kV doc pm : Value) (an : Option Addr) (cdv ct : Value) (us : List Value), us.length = ps.length → bindArgs (PySem.W.fnOf x x (defArgs st) (defBody st) (defScope st) .none kV doc pm an cdv ct) ⟨us, []⟩ = pure (ps.zip us))
    (len : ∀ ds R E M, g ds R E M → ds.length = ps.length)
    (hb : ∀ (f : Addr) (cdv : Value) (A : Around) (outer : List Env) (s : Shared) (H : Hp) (E : XK), Room k (A.deeper (envOfC x (defScope st) s.heap.objs.size f cdv)) → (A.deeper (envOfC x (defScope st) s.heap.objs.size f cdv)).guards = some [] →
      DSs (cxOf (L2.CX P w) P w K mg base N x (defScope st) f cdv A outer s H E) (WB E) (defBody st) tb)
    (hg : ∀ ds R RE M, g ds R RE M → tb (ends R RE) (startD N ds) M) : Df P w K mg base x ps (k + 1) g := by
  obtain ⟨f, fd, h1, F⟩ := T.ex
  exact ⟨f, fd, h1, F.kp, F.binds bd, FnD.of F S len (hb f) hg⟩
theorem Df.imp {x : Str} {ps : List Str} {k : Nat} {g g' : G} (D : Df P w K mg base x ps k g) (h : ∀ ds R E M, g' ds R E M → g ds R E M) : Df P w K mg base x ps k g' := by
  obtain ⟨f, fd, h1, h2, h3, F⟩ := D.ex
  exact ⟨f, fd, h1, h2, h3, F.imp h⟩
end
section
variable {X : Cx} {W : WX} {e : Expr} {es : List Expr} {t : DTA} {g : G} {x : Str} {ps : List Str} {k : Nat} {p pos : Pos}
def dCall (g : G) (t : DTA) : DTE := fun ρ R E M => t ρ (fun ds M1 => g ds R (fun x M' => E x ρ M') M1) E M
theorem de_call (dd : Df X.prog X.w X.K X.mg X.base x ps k g) (hr : Room k X.A) (hG : X.A.guards = some []) (tk : Takes X W) (ha : DA X W (e :: es) t) (hg : Gl X x := by rfl)
    (hdb : (x == ("__debug__" : Str)) = false := by decide) (he : starEach (e :: es) X.env = (false, eval e X.env) :: starEach es X.env := by rfl) (hpl : (backTo pos (starEach es X.env)).any (·.1) = false := by rfl) :
    DE X W (.Call (.Name x p) (e :: es) [] pos) (dCall g t) := by
  obtain ⟨f, fd, hm, hk, hb, F⟩ := dd.ex
  refine ⟨fun pins s σ H Q I ⟨z, ρ, M, R, E, hs, hm2, h, hc, hE⟩ => ?_⟩
  refine wpAny_Call_Name_kw (ld_glob I hg hm ?_ hdb)
  refine PySem.W.callWith_K (h₀ := X.base) I.ok.mod.kin hk (thn (ha.run pos pins s σ H (fun vs H1 => spD X.K g vs H1 Q fun cls d H' => W cls d σ H') I
    ⟨z, ρ, M, _, E, hs, hm2, h, fun ds M1 vs H1 h1 m1 r1 e1 => ⟨z, ds, M1, R, _, r1, m1, h1, hc.ext e1, fun x M' cls d H' a b c f => hE x ρ M' cls d σ H' a b (hs.ext (e1.trans f)) c (e1.trans f)⟩, hE⟩) fun us s1 ⟨vs, H1, I1, r, q⟩ => ⟨I1.kIn, ?_⟩) he hpl
  have hl : us.length = ps.length := by
    obtain ⟨z, ds, M1, R1, RE, ra, _, gg, _⟩ := q
    rw [← r.length, ra.length]
    exact F.len _ _ _ _ gg
  have bb := hb s1 us I1.kIn (by rw [List.append_nil]; exact hl)
  rw [List.append_nil] at bb
  refine wpAny_call (codeAny_mono (F.run X.A X.stack s1 H1 ⟨us, []⟩ us vs Q _ hr hG I1.env0 bb r q) fun res s' hq => ?_)
  cases res with
  | error e' => exact passAt tk σ pins H1 s1 e' s' I1 hq
  | ok fl =>
    cases fl with
    | ret u => exact I1.after hq
    | next => exact False.elim hq
    | brk => exact False.elim hq
    | cont => exact False.elim hq
end

/-! ### the law's end -/
/-- the law's promise at the head: of any script it gives True -/
def gLaw (g : G) : Prop := ∀ ns : List Int, ns.length ≤ 63 → g [.scr ns] (fun d _ => d = .bl true) (fun _ _ => False) (fun _ => none)
theorem law_endD {P : Program} {w : World} {K : PySem.W.Frag} {mg mb : Str → Option Value} {k : Nat} {fa a : Addr} {fd : FuncData} {x : Str} {g : G} {s₁ : Shared} {vs : List Value} {ns : List Int}
    (KX : K.In s₁.heap) (hns : s₁.heap.Ns mainGlobals mg) (hb : s₁.heap.Ns builtinsNs mb) (hbb : ∀ x : Str, x ≠ "__name__" → mb x = bootBuiltins x) (hlim : s₁.heap.NoLimit) (hg : s₁.gens = #[])
    (ha : s₁.heap.get? a = some { cls := .type "list", data := .seq vs.toArray }) (hi : IntsAre vs ns) (hl : ns.length ≤ 63) (hr : Room k callerA)
    (F : ∀ base : Heap, K.In base → base.Ns mainGlobals mg → FnD P w K mg base k fa fd [x] g) (hbind : ∀ (s : Shared) (u : Value), BindsTo s fd ⟨[u], []⟩ [(x, u)]) (hgl : gLaw g) (hT : Tbs.T = []) :
    codeAny (model P w) callerA (.call (.ref fa) ⟨[.ref a], []⟩) (fun r s' => r = .ok (.ret (.bool true)) ∧ OldK s₁.heap s'.heap ∧ s'.os = s₁.os ∧ AllBare s'.gens) s₁ := by
  have hl2 : ns.length ≤ sizeLine := Nat.le_trans hl (by decide)
  have rv := vals_ints hi
  have lv := hi.length
  have main : ∀ H : Hp, Only H → Sc K H a (ns.map V.int) → HOk P w H s₁.heap → (∀ b, H b ≠ none → b = a) → (H a ≠ none → K.lookup a = none) →
      codeAny (model P w) callerA (.call (.ref fa) ⟨[.ref a], []⟩) (fun r s' => r = .ok (.ret (.bool true)) ∧ OldK s₁.heap s'.heap ∧ s'.os = s₁.os ∧ AllBare s'.gens) s₁ := by
    intro H hO hS hok hA hK
    have nd : ∀ {b : Addr} {o : Obj} {es : Array DictEntry} {ep : Nat}, s₁.heap.get? b = some o → o.data = .dict es ep → H b = none := by
      intro b o es ep e d
      by_cases q : H b = none
      · exact q
      · have e' := hA b q
        subst e'
        rw [ha] at e
        cases e
        exact (Data.noConfusion d)
    have toB : ∀ {b : Addr} {o : Obj}, s₁.heap.get? b = some o → H b = none → (hidT s₁.heap H).get? b = some o := fun e n => hidT_get e n
    have nsB : ∀ {b : Addr} {m : Str → Option Value}, s₁.heap.Ns b m → (hidT s₁.heap H).Ns b m := fun {b m} ⟨o, es, ep, e, d, r⟩ => ⟨o, es, ep, toB e (nd e d), d, r⟩
    have kB : K.In (hidT s₁.heap H) := by
      intro b o e
      refine toB (KX b o e) ?_
      by_cases q : H b = none
      · exact q
      · have e' := hA b q
        subst e'
        rw [hK q] at e; cases e
    have md : Mod K mg (hidT s₁.heap H) := ⟨kB, nsB hns, ⟨mb, nsB hb, hbb⟩, let ⟨mc, l1, l2⟩ := hlim; ⟨mc, nsB l1, l2⟩⟩
    have ev : Env0 P w K mg (hidT s₁.heap H) callerA [] s₁ H := ⟨rfl, md, fun b o e => of_hidT e, Nat.le_of_eq (hidT_size _ _), trivial, fun b hb => by simp [frs] at hb, hok, .of_eq hg⟩
    have sp : spD K g [.ref a] H (fun v _ => v = .bl true) (fun _ _ _ => False) := by
      refine ⟨fun _ => none, [.scr ns], fun _ => none, _, _, .cons (.scr hS) .nil, ⟨fun b mo e => by simp at e, fun b ws e => by simp at e, fun p hp => by rw [hT] at hp; cases hp⟩, hgl ns hl, ?_, ?_⟩
      · rintro d M' v H' rfl m r e
        cases r
        rfl
      · intro x M' cls d H' f
        exact f.elim
    refine codeAny_mono ((F _ kB (nsB hns)).run callerA [] s₁ H ⟨[.ref a], []⟩ [.ref a] [.ref a] _ _ hr rfl ev (hbind s₁ (.ref a)) (.cons rfl .nil) sp) fun r s' h => ?_
    cases r with
    | error e =>
      obtain ⟨_, _, _, _, _, _, _, _, _, _, _, _, f⟩ := h
      exact f.elim
    | ok fl =>
      cases fl with
      | next => exact h.elim
      | brk => exact h.elim
      | cont => exact h.elim
      | ret u =>
        obtain ⟨v, H', os, bare, un, hok', r', q⟩ := h
        have q' : v = .bl true := q
        subst q'
        obtain rfl : u = Value.bool true := r'
        refine ⟨rfl, OldK.of_keep fun b o e => ?_, os, bare⟩
        by_cases q : H b = none
        · exact un.keep b o e q (by simp [frs]) (by simp)
        · rcases hO b with z | ⟨ob, xs, z⟩
          · exact absurd z q
          · have z2 := un.frzs b ob _ z
            obtain ⟨e1, _⟩ := hok b _ z
            obtain ⟨e2, _⟩ := hok' b _ z2
            rw [e] at e1
            cases e1
            exact e2
  cases hk : K.lookup a with
  | some o =>
    have e := KX a o hk
    rw [ha] at e
    cases e
    exact main (fun _ => none) (fun _ => .inl rfl) (.inr ⟨_, vs.toArray, _, hk, rfl, rfl, rfl, by rw [List.size_toArray, lv]; exact hl2, by simpa using rv⟩) (fun b u z => by simp at z) (fun b z => absurd rfl z) fun z => absurd rfl z
  | none =>
    refine main (fun b => if b = a then some (.frz { cls := .type "list", data := .seq vs.toArray } (.lst (ns.map V.int))) else none) (fun b => ?_) (.inl ⟨{ cls := .type "list", data := .seq vs.toArray }, if_pos rfl⟩) (fun b u z => ?_) (fun b z => ?_) fun _ => hk
    · by_cases hb : b = a
      · exact .inr ⟨_, _, if_pos hb⟩
      · exact .inl (if_neg hb)
    · by_cases hb : b = a
      · subst hb
        have z' := (if_pos rfl).symm.trans z
        cases z'
        exact ⟨ha, by rw [List.length_map]; exact hl2, vs, _, rv, ha⟩
      · have z' := (if_neg hb).symm.trans z
        cases z'
    · by_cases hb : b = a
      · exact hb
      · exact absurd (if_neg hb) z
/-- the goal that the head leaves -/
theorem walkD {l : PySem.W.OpenLaw} {k : Nat} {q : Program} {loose : List Str} {XP : (Str → Option Value) → Heap → Prop} {YP : World → Heap → Prop} {d : DefRec} {K : Params → PySem.W.Frag} {g : G} {x : Str}
    (hn : l.most = some 63) (hdf : d.params.defaults = []) (hr : Room k callerA) (hY : ∀ (w : World) (h : Heap), YP w h → (K w.params).In h)
    (F : ∀ (w : World) (mg : Str → Option Value) (fa : Addr) (h : Heap), (K w.params).In h → h.Ns mainGlobals mg → mg d.name = some (.ref fa) →
      ∃ fd : FuncData, (∀ (s : Shared) (u : Value), BindsTo s fd ⟨[u], []⟩ [(x, u)]) ∧
        ∀ base : Heap, (K w.params).In base → base.Ns mainGlobals mg → FnD l.prog w (K w.params) mg base k fa fd [x] g) (hgl : gLaw g) (hT : Tbs.T = [] := by rfl) :
    PySem.W.WalkO q loose XP YP l.row.toRowW d [] (fun f vs => PySem.call f vs) := by
  refine Att.attach_call hn hdf fun w s₀ s₁ mg mb fa o pm cd doc a vs ns G Y ho hd hcd hmg hobj hints hlen hg => ?_
  obtain ⟨fd, hb, hF⟩ := F w mg fa _ (hY w _ Y) G.T.g hmg
  exact law_endD (hY w _ Y) G.T.g G.T.b G.T.builtins G.T.nolimit hg hobj hints hlen hr hF hb hgl hT
end L2.DL
/-! DLh: small things for the printed parts -/
namespace L2.DL
open PySem PySem.Spec PyProof.Rows
variable [Tbs]
theorem bt_len : bootBuiltins "len" = some (.builtin "len") := by decide +kernel
theorem bt_abs : bootBuiltins "abs" = some (.builtin "abs") := by decide +kernel
theorem bt_min : bootBuiltins "min" = some (.builtin "min") := by decide +kernel
theorem bt_max : bootBuiltins "max" = some (.builtin "max") := by decide +kernel
theorem bt_sum : bootBuiltins "sum" = some (.builtin "sum") := by decide +kernel
theorem bt_all : bootBuiltins "all" = some (.builtin "all") := by decide +kernel
theorem bt_any : bootBuiltins "any" = some (.builtin "any") := by decide +kernel
theorem bt_repr : bootBuiltins "repr" = some (.builtin "repr") := by decide +kernel
theorem bt_int : bootBuiltins "int" = some (.type "int") := by decide +kernel
theorem bt_tuple : bootBuiltins "tuple" = some (.type "tuple") := by decide +kernel
theorem bt_list : bootBuiltins "list" = some (.type "list") := by decide +kernel
mutual
theorem patW_ex : ∀ (p : Pat) (d : D) (ρ : Sl) (k : Sl → MS → Prop) (M : MS), patW p d ρ k M → ∃ ρ', k ρ' M
  | .nm i, d, ρ, k, M, h => ⟨_, h⟩
  | .tp ps, .tup ds, ρ, k, M, h => (patsW_ex ps ds ρ k M h).2
  | .tp ps, .lst ds, ρ, k, M, h => (patsW_ex ps ds ρ k M h).2
  | .tp ps, .non, ρ, k, M, h => (show False from h).elim
  | .tp ps, .bl _, ρ, k, M, h => (show False from h).elim
  | .tp ps, .int _, ρ, k, M, h => (show False from h).elim
  | .tp ps, .str _, ρ, k, M, h => (show False from h).elim
  | .tp ps, .ty _, ρ, k, M, h => (show False from h).elim
  | .tp ps, .ref _, ρ, k, M, h => (show False from h).elim
  | .tp ps, .scr _, ρ, k, M, h => (show False from h).elim
  | .tp ps, .fn _, ρ, k, M, h => (show False from h).elim
  | .tp ps, .clo _ _ _, ρ, k, M, h => (show False from h).elim
theorem patsW_ex : ∀ (ps : List Pat) (ds : List D) (ρ : Sl) (k : Sl → MS → Prop) (M : MS), patsW ps ds ρ k M → ds.length = ps.length ∧ ∃ ρ', k ρ' M
  | [], [], ρ, k, M, h => ⟨rfl, _, h⟩
  | [], _ :: _, ρ, k, M, h => (show False from h).elim
  | _ :: _, [], ρ, k, M, h => (show False from h).elim
  | p :: ps, d :: ds, ρ, k, M, h => by
    obtain ⟨ρ1, h1⟩ := patW_ex p d ρ _ M h
    obtain ⟨e, h2⟩ := patsW_ex ps ds ρ1 k M h1
    exact ⟨by rw [List.length_cons, List.length_cons, e], h2⟩
end
theorem pl_of (n : Nat) {ps : List Pat} (h : ps.length = n := by rfl) : ∀ ds ρ k M, patsW ps ds ρ k M → ds.length = n := fun ds ρ k M q => (patsW_ex ps ds ρ k M q).1.trans h
/-- what a def's proof shows -/
abbrev Hg (g : G) (tb : DTS) (N : List Str) : Prop := ∀ ds R RE M, g ds R RE M → tb (ends R RE) (startD N ds) M
end L2.DL
/-! DLi: what the readings come to, row by row (for simp) -/
namespace L2.DL
open PySem PySem.Spec PyProof.Rows
section
variable {De : DEnds} {ρ : Sl} {M : MS} {R : PD} {E : XP} {t u : DTS} {te ta tb tc to ti : DTE} {tA tB : DTT} {tl th : DTA} {lo hi : DTO} {i j : Nat} {d x y : D} {ds es : List D} {RB : Bool → MS → Prop} {w : DTI} {p : Pat}
theorem v_seq : dSeq t u De ρ M = t { De with nx := u De } ρ M := (rfl)
theorem v_next : dNext De ρ M = De.nx ρ M := (rfl)
theorem v_never : dNever De ρ M = False := (rfl)
theorem v_set : dSet i te De ρ M = te ρ (fun d M1 => De.nx (ρ.set i (some d)) M1) De.ex M := (rfl)
theorem v_ret : dRet te De ρ M = te ρ De.rt De.ex M := (rfl)
theorem v_retN : dRetN De ρ M = De.rt .non M := (rfl)
theorem v_ifS : dIfS tA t u De ρ M = tA ρ (fun k M1 => if k = true then t De ρ M1 else u De ρ M1) De.ex M := (rfl)
theorem v_expr : dExpr te De ρ M = te ρ (fun _ M1 => De.nx ρ M1) De.ex M := (rfl)
theorem v_asg : dAsg p te De ρ M = te ρ (fun d M1 => patW p d ρ De.nx M1) De.ex M := (rfl)
theorem v_par : dPar i j tl De ρ M = tl ρ (fun ds M1 => match ds with | [x, y] => De.nx ((ρ.set i (some x)).set j (some y)) M1 | _ => False) De.ex M := (rfl)
theorem v_sub : dSub te to ti De ρ M = te ρ (fun d M1 => to ρ (fun o M2 => ti ρ (fun i M3 => setLD o i d (fun M4 => De.nx ρ M4) M3) De.ex M2) De.ex M1) De.ex M := (rfl)
theorem v_for : dFor w p t De ρ M = w ρ (fun items M1 => forW p t De items ρ M1) De.ex M := (rfl)
theorem v_forN : forW p t De [] ρ M = De.nx ρ M := (rfl)
theorem v_forC : forW p t De (d :: ds) ρ M = patW p d ρ (fun ρ1 M1 => t { De with nx := forW p t De ds, ct := forW p t De ds, bk := De.nx } ρ1 M1) M := (rfl)
theorem v_break : dBreak De ρ M = De.bk ρ M := (rfl)
theorem v_cont : dCont De ρ M = De.ct ρ M := (rfl)
theorem v_nm {k : Sl → MS → Prop} : patW (.nm i) d ρ k M = k (ρ.set i (some d)) M := by cases d <;> rfl
theorem v_tp {ps : List Pat} {k : Sl → MS → Prop} : patW (.tp ps) (.tup ds) ρ k M = patsW ps ds ρ k M := (rfl)
theorem v_tpL {ps : List Pat} {k : Sl → MS → Prop} : patW (.tp ps) (.lst ds) ρ k M = patsW ps ds ρ k M := (rfl)
theorem v_tpN {k : Sl → MS → Prop} : patsW [] [] ρ k M = k ρ M := (rfl)
theorem v_tpC {ps : List Pat} {k : Sl → MS → Prop} : patsW (p :: ps) (d :: ds) ρ k M = patW p d ρ (fun ρ1 M1 => patsW ps ds ρ1 k M1) M := (rfl)
theorem v_var : dVar i ρ R E M = match sl ρ i with | some d => R d M | none => False := (rfl)
theorem v_sl0 {o : Option D} {r : Sl} : sl (o :: r) 0 = o := (rfl)
theorem v_slS {o : Option D} {r : Sl} {n : Nat} : sl (o :: r) (n + 1) = sl r n := (rfl)
theorem v_c : dC d ρ R E M = R d M := (rfl)
theorem v_nil {R : List D → MS → Prop} : dNil ρ R E M = R [] M := (rfl)
theorem v_cons {R : List D → MS → Prop} : dCons ta tl ρ R E M = ta ρ (fun x M1 => tl ρ (fun xs M2 => R (x :: xs) M2) E M1) E M := (rfl)
theorem v_tup : dTup tl ρ R E M = tl ρ (fun ds M1 => ds.length ≤ sizeLine ∧ R (.tup ds) M1) E M := (rfl)
theorem v_lst : dLst tl ρ R E M = tl ρ (fun ds M1 => ds.length ≤ sizeLine ∧ R (.lst ds) M1) E M := (rfl)
theorem v_lstN : dLstN tl ρ R E M = tl ρ (fun ds M1 => ds.length ≤ sizeLine ∧ ∀ p, M1 p = none → R (.ref p) (um M1 p (.lst ds))) E M := (rfl)
theorem v_op {f : D → D → PD → MS → Prop} : dOp f ta tb ρ R E M = ta ρ (fun x M1 => tb ρ (fun y M2 => f x y R M2) E M1) E M := (rfl)
theorem v_un {f : D → PD → MS → Prop} : dUn f ta ρ R E M = ta ρ (fun x M1 => f x R M1) E M := (rfl)
theorem v_ix : dIx ta tb ρ R E M = ta ρ (fun x M1 => tb ρ (fun y M2 => ixD x y R M2) E M1) E M := (rfl)
theorem v_tst : dTst te ρ RB E M = te ρ (fun d M1 => match d with | .bl k => RB k M1 | _ => False) E M := (rfl)
theorem v_tru : dTru te ρ RB E M = te ρ (fun d M1 => truD d RB M1) E M := (rfl)
theorem v_and : dAnd tA tB ρ RB E M = tA ρ (fun b M1 => if b = true then tB ρ RB E M1 else RB false M1) E M := (rfl)
theorem v_or : dOr tA tB ρ RB E M = tA ρ (fun b M1 => if b = true then RB true M1 else tB ρ RB E M1) E M := (rfl)
theorem v_not : dNot tA ρ RB E M = tA ρ (fun b M1 => RB (!b) M1) E M := (rfl)
theorem v_andV : dAndV ta tb ρ R E M = ta ρ (fun x M1 => truD x (fun k M2 => if k = true then tb ρ R E M2 else R x M2) M1) E M := (rfl)
theorem v_orV : dOrV ta tb ρ R E M = ta ρ (fun x M1 => truD x (fun k M2 => if k = true then R x M2 else tb ρ R E M2) M1) E M := (rfl)
theorem v_notV : dNotV ta ρ R E M = ta ρ (fun x M1 => truD x (fun k M2 => R (.bl (!k)) M2) M1) E M := (rfl)
theorem v_if : dIf tA ta tb ρ R E M = tA ρ (fun k M1 => if k = true then ta ρ R E M1 else tb ρ R E M1) E M := (rfl)
theorem v_chain {f g : D → D → PD → MS → Prop} : dChain f g ta tb tc ρ R E M = ta ρ (fun x M1 => tb ρ (fun y M2 => f x y (fun z M3 => match z with
  | .bl k => if k = true then tc ρ (fun w M4 => g y w R M4) E M3 else R (.bl false) M3
  | _ => False) M2) E M1) E M := (rfl)
theorem v_noP {R : Option Int → MS → Prop} : dNoPart ρ R E M = R none M := (rfl)
theorem v_part {R : Option Int → MS → Prop} : dPart te ρ R E M = te ρ (fun d M1 => match d with | .int i => R (some i) M1 | _ => False) E M := (rfl)
theorem v_sl : dSl ta lo hi ρ R E M = ta ρ (fun x M1 => lo ρ (fun lo M2 => hi ρ (fun hi M3 => slD x lo hi R M3) E M2) E M1) E M := (rfl)
theorem v_cb {f : List D → PD → MS → Prop} : dCB f tl ρ R E M = tl ρ (fun xs M1 => f xs R M1) E M := (rfl)
theorem v_mt {f : D → List D → PD → MS → Prop} : dMt f to tl ρ R E M = to ρ (fun x M1 => isL M1 x ∧ tl ρ (fun xs M2 => f x xs R M2) E M1) E M := (rfl)
theorem v_call {g : G} : dCall g tl ρ R E M = tl ρ (fun ds M1 => g ds R (fun x M' => E x ρ M') M1) E M := (rfl)
theorem v_items : dItems te ρ = fun (R : List D → MS → Prop) E M => te ρ (fun d M1 => match d with
  | .lst ds => R ds M1
  | .tup ds => R ds M1
  | _ => False) E M := (rfl)
theorem v_rng1 {R : List D → MS → Prop} : dRng1 tl ρ R E M = tl ρ (fun ds M1 => match ds with
  | [.int j] => -(2 ^ 62) ≤ j ∧ j < 2 ^ 62 ∧ R (rng 0 j.toNat) M1
  | _ => False) E M := (rfl)
theorem v_rng2 {R : List D → MS → Prop} : dRng2 tl ρ R E M = tl ρ (fun ds M1 => match ds with
  | [.int i, .int j] => (-(2 ^ 62) ≤ i ∧ i < 2 ^ 62 ∧ -(2 ^ 62) ≤ j ∧ j < 2 ^ 62) ∧ R (rng i (j - i).toNat) M1
  | _ => False) E M := (rfl)
theorem v_lc {tt : DTT} {vs : List Nat} : dLc w p tt te vs ρ R E M = w ρ (fun items M1 => lcW p tt te vs ρ (fun acc M2 => R (.lst acc) M2) items [] M1) E M := (rfl)
theorem v_lcN {tt : DTT} {vs : List Nat} {R : List D → MS → Prop} {acc : List D} : lcW p tt te vs ρ R [] acc M = R acc M := (rfl)
theorem v_lcC {tt : DTT} {vs : List Nat} {R : List D → MS → Prop} {acc : List D} : lcW p tt te vs ρ R (d :: ds) acc M = patW p d (wipeD ρ vs) (fun ρ1 M1 => tt ρ1 (fun b M2 => if b = true then te ρ1 (fun y M3 => acc.length < sizeLine ∧ lcW p tt te vs ρ R ds (acc ++ [y]) M3) noX M2 else lcW p tt te vs ρ R ds acc M2) noX M1) M := (rfl)
theorem v_forL : dForL i p t De ρ M = match sl ρ i with
  | some (.ref a) => ∃ ds, M a = some (.lst ds) ∧ forW p t (lockE a ds De) ds ρ (dm M a)
  | _ => False := (rfl)
theorem v_lcL {tt : DTT} {vs : List Nat} : dLcL i p tt te vs ρ R E M = match sl ρ i with
  | some (.ref a) => ∃ ds, M a = some (.lst ds) ∧ lcW p tt te vs ρ (fun acc M2 => R (.lst acc) (um M2 a (.lst ds))) ds [] (dm M a)
  | _ => False := (rfl)
theorem v_yes : dYes ρ RB E M = RB true M := (rfl)
theorem v_wN : wipeD ρ [] = ρ := (rfl)
theorem v_wC {vs : List Nat} {n : Nat} : wipeD ρ (n :: vs) = (wipeD ρ vs).set n none := (rfl)
theorem v_st0 {ds : List D} : startD [] ds = [] := (rfl)
theorem v_stC {s : Str} {N : List Str} {ds : List D} : startD (s :: N) (d :: ds) = some d :: startD N ds := (rfl)
theorem v_stN {s : Str} {N : List Str} : startD (s :: N) [] = none :: startD N [] := (rfl)
-- operators
theorem q_add {i j : Int} : addD (.int i) (.int j) R M = R (.int (i + j)) M := (rfl)
theorem q_addT : addD (.tup ds) (.tup es) R M = (ds.length + es.length ≤ sizeLine ∧ R (.tup (ds ++ es)) M) := (rfl)
theorem q_addS {i j : Str} : addD (.str i) (.str j) R M = (i.length + j.length ≤ sizeLine ∧ R (.str (i ++ j)) M) := (rfl)
theorem q_addL : addD (.lst ds) (.lst es) R M = (ds.length + es.length ≤ sizeLine ∧ R (.lst (ds ++ es)) M) := by
  apply propext
  constructor
  · rintro ⟨a, b, h1, h2, h3⟩
    cases (show a = ds from h1); cases (show b = es from h2)
    exact h3
  · exact fun h => ⟨_, _, rfl, rfl, h⟩
theorem q_sub {i j : Int} : subD (.int i) (.int j) R M = R (.int (i - j)) M := (rfl)
theorem q_mul {i j : Int} : mulD (.int i) (.int j) R M = (CMulX i j ∧ R (.int (i * j)) M) := (rfl)
theorem q_fdiv {i j : Int} : fdivD (.int i) (.int j) R M = (CDivX i j ∧ R (.int (i.fdiv j)) M) := (rfl)
theorem q_mod {i j : Int} : modD (.int i) (.int j) R M = (j ≠ 0 ∧ R (.int (i.fmod j)) M) := (rfl)
theorem q_pow {i j : Int} : powD (.int i) (.int j) R M = (CPow i j ∧ R (.int (i ^ j.toNat)) M) := (rfl)
theorem q_neg {i : Int} : negD (.int i) R M = R (.int (-i)) M := (rfl)
theorem q_ii {f : Int → Int → Bool} {i j : Int} : iiD f (.int i) (.int j) R M = R (.bl (f i j)) M := (rfl)
theorem q_eqI {f : Bool → Bool} {i j : Int} : eqD f (.int i) (.int j) R M = R (.bl (f (decide (i = j)))) M := (rfl)
theorem q_eqS {f : Bool → Bool} {i j : Str} : eqD f (.str i) (.str j) R M = R (.bl (f (decide (i = j)))) M := (rfl)
theorem q_eqB {f : Bool → Bool} {i j : Bool} : eqD f (.bl i) (.bl j) R M = R (.bl (f (decide (i = j)))) M := (rfl)
theorem q_is {f : Bool → Bool} : isD f x .non R M = R (.bl (f (isNon x))) M := by cases x <;> rfl
theorem q_it0 : itD (x :: ds) 0 R M = R x M := by unfold itD; rw [show atI (x :: ds) 0 = some x from atI_nat (j := 0) rfl]
theorem q_it1 {a : D} : itD (a :: x :: ds) 1 R M = R x M := by unfold itD; rw [show atI (a :: x :: ds) 1 = some x from atI_nat (j := 1) rfl]
theorem q_it2 {a b : D} : itD (a :: b :: x :: ds) 2 R M = R x M := by unfold itD; rw [show atI (a :: b :: x :: ds) 2 = some x from atI_nat (j := 2) rfl]
theorem q_it3 {a b c : D} : itD (a :: b :: c :: x :: ds) 3 R M = R x M := by unfold itD; rw [show atI (a :: b :: c :: x :: ds) 3 = some x from atI_nat (j := 3) rfl]
theorem q_it {n : Nat} (h : ds[n]? = some x) : itD ds (n : Int) R M = R x M := by unfold itD; rw [atI_nat h]
theorem q_ixT {i : Int} : ixD (.tup ds) (.int i) R M = itD ds i R M := (rfl)
theorem q_ixL {i : Int} : ixD (.lst ds) (.int i) R M = itD ds i R M := (rfl)
theorem q_ixR {a : Addr} {i : Int} : ixD (.ref a) (.int i) R M = ∃ ds, M a = some (.lst ds) ∧ itD ds i R M := (rfl)
theorem q_setL {a : Addr} {k : Int} {R : MS → Prop} : setLD (.ref a) (.int k) d R M = ∃ ds j, M a = some (.lst ds) ∧ ixN ds.length k = some j ∧ R (um M a (.lst (ds.set j d))) := (rfl)
theorem q_lenT : lenD [.tup ds] R M = R (.int ds.length) M := (rfl)
theorem q_lenL : lenD [.lst ds] R M = R (.int ds.length) M := (rfl)
theorem q_lenR {a : Addr} : lenD [.ref a] R M = ∃ ds, M a = some (.lst ds) ∧ R (.int ds.length) M := (rfl)
theorem q_slT {lo hi : Option Int} : slD (.tup ds) lo hi R M = R (.tup (cut ds lo hi)) M := (rfl)
theorem q_slL {lo hi : Option Int} : slD (.lst ds) lo hi R M = R (.lst (cut ds lo hi)) M := (rfl)
theorem q_slC {ns : List Int} {lo hi : Option Int} : slD (.scr ns) lo hi R M = R (.lst ((cut ns lo hi).map D.int)) M := (rfl)
theorem q_app {a : Addr} : appD (.ref a) [d] R M = ∃ ds, M a = some (.lst ds) ∧ ds.length < sizeLine ∧ R .non (um M a (.lst (ds ++ [d]))) := (rfl)
theorem q_ext {a : Addr} : extD (.ref a) [d] R M = ∃ ds es, M a = some (.lst ds) ∧ Sq M d es ∧ ds.length + es.length ≤ sizeLine ∧ R .non (um M a (.lst (ds ++ es))) := (rfl)
theorem q_isL {a : Addr} : isL M (.ref a) = ∃ ds, M a = some (.lst ds) := (rfl)
theorem q_tupL : tupD [.lst ds] R M = R (.tup ds) M := by
  apply propext
  constructor
  · rintro ⟨a, h1, h2⟩
    cases (show a = ds from h1)
    exact h2
  · exact fun h => ⟨_, rfl, h⟩
theorem q_tupT : tupD [.tup ds] R M = R (.tup ds) M := by
  apply propext
  constructor
  · rintro ⟨a, h1, h2⟩
    cases (show a = ds from h1)
    exact h2
  · exact fun h => ⟨_, rfl, h⟩
theorem q_tupR {a : Addr} : tupD [.ref a] R M = ∃ ds, M a = some (.lst ds) ∧ R (.tup ds) M := (rfl)
theorem q_tb {b : Bool} : truD (.bl b) RB M = RB b M := (rfl)
theorem q_tn : truD .non RB M = RB false M := (rfl)
theorem q_ti {i : Int} : truD (.int i) RB M = RB (i != 0) M := (rfl)
theorem q_tt : truD (.tup ds) RB M = RB (!ds.isEmpty) M := (rfl)
theorem q_tl : truD (.lst ds) RB M = RB (!ds.isEmpty) M := (rfl)
theorem q_abs {i : Int} : absD [.int i] R M = R (.int (if i < 0 then -i else i)) M := (rfl)
theorem q_min {i j : Int} : minD [.int i, .int j] R M = R (.int (if j < i then j else i)) M := (rfl)
theorem q_max {i j : Int} : maxD [.int i, .int j] R M = R (.int (if j > i then j else i)) M := (rfl)
theorem q_intI {i : Int} : intD [.int i] R M = R (.int i) M := (rfl)
theorem q_intB {b : Bool} : intD [.bl b] R M = R (.int (if b then 1 else 0)) M := (rfl)
theorem q_dnx {a b c e f} : ({ nx := a, rt := b, bk := c, ct := e, ex := f } : DEnds).nx = a := (rfl)
theorem q_drt {a b c e f} : ({ nx := a, rt := b, bk := c, ct := e, ex := f } : DEnds).rt = b := (rfl)
theorem q_dbk {a b c e f} : ({ nx := a, rt := b, bk := c, ct := e, ex := f } : DEnds).bk = c := (rfl)
theorem q_dct {a b c e f} : ({ nx := a, rt := b, bk := c, ct := e, ex := f } : DEnds).ct = e := (rfl)
theorem q_dex {a b c e f} : ({ nx := a, rt := b, bk := c, ct := e, ex := f } : DEnds).ex = f := (rfl)
end
end L2.DL
namespace L2.DL
open PySem PySem.Spec PyProof.Rows
section
variable {M : MS} {R : PD} {d x y : D} {ds es : List D} {f : Bool → Bool}
theorem q_ixN0 {n : Nat} : ixN (n + 1) 0 = some 0 := by unfold ixN; rw [if_pos (by decide), if_pos (by omega)]; rfl
theorem q_ixN1 {n : Nat} : ixN (n + 1 + 1) 1 = some 1 := by unfold ixN; rw [if_pos (by decide), if_pos (by omega)]; rfl
theorem q_ixN2 {n : Nat} : ixN (n + 1 + 1 + 1) 2 = some 2 := by unfold ixN; rw [if_pos (by decide), if_pos (by omega)]; rfl
theorem q_ixN3 {n : Nat} : ixN (n + 1 + 1 + 1 + 1) 3 = some 3 := by unfold ixN; rw [if_pos (by decide), if_pos (by omega)]; rfl
theorem log2_lt {n k : Nat} (h : n < 2 ^ k) (hk : 0 < k) : n.log2 < k := PySem.Flt.log2_lt_of hk h
theorem mul_ok {i j : Int} {a b : Nat} (h1 : i.natAbs < 2 ^ a) (h2 : j.natAbs < 2 ^ b) (h0 : 0 < a) (h3 : 0 < b) (h : a + b ≤ 1000000) : CMulX i j := by
  have x := log2_lt h1 h0
  have y := log2_lt h2 h3
  unfold CMulX
  omega
theorem div_ok {i j : Int} {b : Nat} (h : j ≠ 0) (h2 : j.natAbs < 2 ^ b) (h0 : 0 < b) (h9 : b ≤ 9000) : CDivX i j := ⟨h, Nat.lt_of_lt_of_le (log2_lt h2 h0) h9⟩
/-- data that may be compared, written out -/
def okP (d : D) : Prop := isP d = true ∧ SeqAt.shaped (pd d) = true
theorem eqD_gen (hx : okP x) (hy : okP y) (h : R (.bl (f (PyData.eqv (pd x) (pd y)))) M) : eqD f x y R M := by
  have g : eqG f x y R M := by
    have sx : Sees M x x := by
      cases x with
      | ref a => cases hx.1
      | _ => rfl
    have sy : Sees M y y := by
      cases y with
      | ref a => cases hy.1
      | _ => rfl
    exact ⟨x, y, sx, sy, hx.1, hy.1, hx.2, hy.2, h⟩
  unfold eqD
  split
  · skip
    simpa [pd, PyData.eqv, Bool.beq_eq_decide_eq] using h
  · simpa [pd, PyData.eqv, Bool.beq_eq_decide_eq] using h
  · simpa [pd, PyData.eqv, Bool.beq_eq_decide_eq] using h
  · exact g
theorem pds_ints : ∀ ns : List Int, pds (ns.map D.int) = ns.map PyData.int
  | [] => rfl
  | n :: ns => by show PyData.int n :: pds (ns.map D.int) = _; rw [pds_ints ns]; rfl
theorem isPs_ints : ∀ ns : List Int, isPs (ns.map D.int) = true
  | [] => rfl
  | n :: ns => by show (true && isPs (ns.map D.int)) = true; rw [isPs_ints ns]; rfl
theorem lay_ints : ∀ ns : List Int, PyData.canLayAll0 (ns.map PyData.int) = true ∧ PyData.depthAll (ns.map PyData.int) = 0
  | [] => ⟨by simp [PyData.canLayAll0], by simp [PyData.depthAll]⟩
  | n :: ns => by
    obtain ⟨a, b⟩ := lay_ints ns
    exact ⟨by simp [PyData.canLayAll0, PyData.canLay0, a], by simp [PyData.depthAll, PyData.depth, b]⟩
theorem okP_ints (ns : List Int) : okP (.lst (ns.map D.int)) := by
  obtain ⟨a, b⟩ := lay_ints ns
  refine ⟨isPs_ints ns, ?_⟩
  show SeqAt.shaped (.list (pds (ns.map D.int))) = true
  rw [pds_ints]
  simp [SeqAt.shaped, PyData.canLay0, PyData.depth, a, b]
theorem okP_nil : okP (.lst []) := okP_ints []
theorem q_intsNil {ns : List Int} (h : R (.bl (f ns.isEmpty)) M) : eqD f (.lst (ns.map D.int)) (.lst []) R M := by
  refine eqD_gen (okP_ints ns) okP_nil ?_
  have e : PyData.eqv (pd (.lst (ns.map D.int))) (pd (.lst [])) = ns.isEmpty := by
    show PyData.eqv (.list (pds (ns.map D.int))) (.list (pds [])) = _
    rw [pds_ints]
    cases ns <;> simp [PyData.eqv, PyData.eqvAll, pds]
  rw [e]
  exact h
theorem fmod_nn {i n : Int} (h : 0 < n) : 0 ≤ i.fmod n ∧ i.fmod n < n := ⟨Int.fmod_nonneg_of_pos i h, Int.fmod_lt_of_pos i h⟩
theorem it_in {i : Int} (h0 : 0 ≤ i) (h1 : i < ds.length) (k : ∀ d, d ∈ ds → R d M) : itD ds i R M := by
  obtain ⟨n, rfl⟩ : ∃ n : Nat, i = n := ⟨i.toNat, by omega⟩
  have hn : n < ds.length := by omega
  have e : ds[n]? = some ds[n] := List.getElem?_eq_getElem hn
  rw [q_it e]
  exact k _ (List.getElem_mem hn)
end
end L2.DL
/-! DLj: loops by an invariant over what is left -/
namespace L2.DL
open PySem PySem.Spec PyProof.Rows
theorem for_ind {p : Pat} {t : DTS} {De : DEnds} (I : List D → Sl → MS → Prop)
    (step : ∀ d ds ρ M (Kx : Sl → MS → Prop), I (d :: ds) ρ M → (∀ ρ' M', I ds ρ' M' → Kx ρ' M') → patW p d ρ (fun ρ1 M1 => t { De with nx := Kx, ct := Kx, bk := De.nx } ρ1 M1) M)
    (fin : ∀ ρ M, I [] ρ M → De.nx ρ M) : ∀ {items : List D} {ρ : Sl} {M : MS}, I items ρ M → forW p t De items ρ M
  | [], ρ, M, h => by rw [v_forN]; exact fin ρ M h
  | d :: ds, ρ, M, h => by
    rw [v_forC]
    exact step d ds ρ M _ h fun ρ' M' h' => for_ind I step fin h'
theorem lc_ind {p : Pat} {tt : DTT} {te : DTE} {vs : List Nat} {ρ : Sl} {R : List D → MS → Prop} (I : List D → List D → MS → Prop)
    (step : ∀ d ds acc M (Kx : List D → MS → Prop), I (d :: ds) acc M → (∀ acc' M', I ds acc' M' → Kx acc' M') → patW p d (wipeD ρ vs) (fun ρ1 M1 => tt ρ1 (fun b M2 => if b = true then te ρ1 (fun y M3 => acc.length < sizeLine ∧ Kx (acc ++ [y]) M3) noX M2 else Kx acc M2) noX M1) M)
    (fin : ∀ acc M, I [] acc M → R acc M) : ∀ {items acc : List D} {M : MS}, I items acc M → lcW p tt te vs ρ R items acc M
  | [], acc, M, h => by rw [v_lcN]; exact fin acc M h
  | d :: ds, acc, M, h => by
    rw [v_lcC]
    exact step d ds acc M _ h fun a' M' h' => lc_ind I step fin h'
/-- a comprehension that leaves the store as it is and maps each item -/
theorem lc_map {p : Pat} {te : DTE} {vs : List Nat} {ρ : Sl} {R : List D → MS → Prop} {M : MS} (f : D → D) {items : List D}
    (step : ∀ d, d ∈ items → ∀ (R : PD), R (f d) M → patW p d (wipeD ρ vs) (fun ρ1 M1 => te ρ1 R noX M1) M)
    (hn : items.length ≤ sizeLine) (fin : R (items.map f) M) : lcW p dYes te vs ρ R items [] M := by
  refine lc_ind (fun its acc M' => M' = M ∧ ∃ pre, items = pre ++ its ∧ acc = pre.map f) ?_ ?_ ⟨rfl, [], rfl, rfl⟩
  · rintro d ds acc M' Kx ⟨rfl, pre, e1, e2⟩ hk
    have hl : acc.length < sizeLine := by
      rw [e2, List.length_map]
      have := congrArg List.length e1
      rw [List.length_append, List.length_cons] at this
      omega
    refine step d (by rw [e1]; exact List.mem_append_right _ List.mem_cons_self) (fun y M3 => acc.length < sizeLine ∧ Kx (acc ++ [y]) M3) ⟨hl, hk _ _ ⟨rfl, pre ++ [d], by rw [e1, List.append_assoc]; rfl, by rw [e2, List.map_append]; rfl⟩⟩
  · rintro acc M' ⟨rfl, pre, e1, e2⟩
    rw [List.append_nil] at e1
    rw [e2, ← e1]
    exact fin
theorem mem_rng {d : D} {lo : Int} {n : Nat} (h : d ∈ rng lo n) : ∃ k : Nat, k < n ∧ d = .int (lo + k) := by
  obtain ⟨k, hk, e⟩ := List.mem_map.mp h
  exact ⟨k, List.mem_range.mp hk, e.symm⟩
theorem rng_len {lo : Int} {n : Nat} : (rng lo n).length = n := by
  unfold rng
  rw [List.length_map, List.length_range]
theorem um_comm {M : MS} {a b : Addr} {o u : MO} (h : a ≠ b) : um (um M a o) b u = um (um M b u) a o := by
  funext c
  unfold um
  split
  · split
    · rename_i x y
      exact absurd (y.symm.trans x) h
    · rfl
  · rfl
/-- a store with one list of its own at p (a: the feed), otherwise as M -/
structure Two (Fd : MO → Prop) (M : MS) (a p : Addr) (L : List D) (M' : MS) : Prop where
  fd : ∃ o, M' a = some o ∧ Fd o
  ls : M' p = some (.lst L)
  ne : p ≠ a
  ot : ∀ q, q ≠ a → q ≠ p → M' q = M q
theorem Two.um {F F' : MO → Prop} {M M' : MS} {a p : Addr} {L : List D} {o : MO} (h : Two F M a p L M') (f : F' o) : Two F' M a p L (um M' a o) :=
  ⟨⟨o, um_same, f⟩, (um_ne h.ne).trans h.ls, h.ne, fun q h1 h2 => (um_ne h1).trans (h.ot q h1 h2)⟩
theorem Two.put {F : MO → Prop} {M M' : MS} {a p : Addr} {L L' : List D} (h : Two F M a p L M') : Two F M a p L' (DL.um M' p (.lst L')) := by
  obtain ⟨o, e, f⟩ := h.fd
  exact ⟨⟨o, (um_ne h.ne.symm).trans e, f⟩, um_same, h.ne, fun q h1 h2 => (um_ne h2).trans (h.ot q h1 h2)⟩
theorem Two.new {F : MO → Prop} {M : MS} {a p : Addr} {L : List D} {o : MO} (f : F o) (n : DL.um M a o p = none) : Two F M a p L (DL.um (DL.um M a o) p (.lst L)) := by
  have ne : p ≠ a := by
    intro e
    rw [e, um_same] at n
    cases n
  exact ⟨⟨o, (um_ne ne.symm).trans um_same, f⟩, um_same, ne, fun q h1 h2 => (um_ne h2).trans (um_ne h1)⟩
theorem Two.mono {F F' : MO → Prop} {M M' : MS} {a p : Addr} {L : List D} (h : Two F M a p L M') (k : ∀ o, F o → F' o) : Two F' M a p L M' := by
  obtain ⟨o, e, f⟩ := h.fd
  exact ⟨⟨o, e, k o f⟩, h.ls, h.ne, h.ot⟩
theorem Two.out {F : MO → Prop} {M M' : MS} {a p : Addr} {L : List D} (h : Two F M a p L M') (n : M p = none) : ∃ o, F o ∧ Le (DL.um M a o) M' := by
  obtain ⟨o, e, f⟩ := h.fd
  refine ⟨o, f, fun q u hq => ?_⟩
  by_cases e1 : q = a
  · subst e1
    rw [um_same] at hq
    rw [e, hq]
  · rw [um_ne e1] at hq
    have e2 : q ≠ p := fun e2 => by rw [e2, n] at hq; cases hq
    rw [h.ot q e1 e2, hq]
end L2.DL
/-! DLk: data small enough to be shown and compared -/
namespace L2.DL
open PySem PySem.Spec PyProof.Rows
variable [Tbs]
/-- plain data: numbers below 10^k, at most m deep, weight at most n -/
structure Nice (k m n : Nat) (d : D) : Prop where
  isp : isP d = true
  lay : (pd d).canLay0 = true
  lev : (pd d).leavesShort (k + 1) = true
  shw : (pd d).showable = true
  dep : (pd d).depth ≤ m
  wgt : (pd d).weight ≤ n
theorem Nice.up {k m n m' n' : Nat} {d : D} (h : Nice k m n d) (h1 : m ≤ m') (h2 : n ≤ n') : Nice k m' n' d := ⟨h.isp, h.lay, h.lev, h.shw, Nat.le_trans h.dep h1, Nat.le_trans h.wgt h2⟩
theorem pow10_2 : ∀ k : Nat, 10 ^ k ≤ 2 ^ (4 * k)
  | 0 => Nat.le_refl _
  | k + 1 => by
    have h := pow10_2 k
    rw [Nat.pow_succ, Nat.mul_add, Nat.pow_add]
    exact Nat.mul_le_mul h (by decide)
theorem nice_int {k : Nat} {i : Int} (hk : 0 < k) (hk2 : k ≤ 400) (h : i.natAbs < 10 ^ k) : Nice k 0 (4 * k) (.int i) := by
  have hp := pow10_2 k
  have hl : i.natAbs.log2 < 4 * k := log2_lt (Nat.lt_of_lt_of_le h hp) (by omega)
  refine ⟨rfl, by simp [pd, PyData.canLay0], ?_, ?_, by simp [pd, PyData.depth], ?_⟩
  · have e := int_text_length_le10 hk h
    have e2 : (PyData.shown (.int i)).length ≤ k + 1 := by
      show (Str.ofString (toString i)).length ≤ k + 1
      rw [PySem.ofString_length]
      exact e
    simp only [pd, PyData.leavesShort, decide_eq_true_eq]
    exact e2
  · have : i.natAbs.log2 < 1920 := by omega
    simpa [pd, PyData.showable] using this
  · simp only [pd, PyData.weight]
    split <;> omega
theorem nice_non {k : Nat} : Nice k 0 0 .non := ⟨rfl, by simp [pd, PyData.canLay0], by simp [pd, PyData.leavesShort], by simp [pd, PyData.showable], by simp [pd, PyData.depth], by simp [pd, PyData.weight]⟩
theorem nice_bl {k : Nat} {b : Bool} : Nice k 0 0 (.bl b) := ⟨rfl, by simp [pd, PyData.canLay0], by simp [pd, PyData.leavesShort], by simp [pd, PyData.showable], by simp [pd, PyData.depth], by simp [pd, PyData.weight]⟩
theorem nices {k m n : Nat} : ∀ {ds : List D}, (∀ d, d ∈ ds → Nice k m n d) → isPs ds = true ∧ PyData.canLayAll0 (pds ds) = true ∧ PyData.leavesShortAll (k + 1) (pds ds) = true ∧ PyData.showableAll (pds ds) = true ∧ PyData.depthAll (pds ds) ≤ m ∧ PyData.weightAll (pds ds) ≤ (n + 1) * ds.length
  | [], _ => ⟨rfl, by simp [pds, PyData.canLayAll0], by simp [pds, PyData.leavesShortAll], by simp [pds, PyData.showableAll], by simp [pds, PyData.depthAll], by simp [pds, PyData.weightAll]⟩
  | d :: ds, h => by
    have a := h d List.mem_cons_self
    obtain ⟨b1, b2, b3, b4, b5, b6⟩ := nices fun e he => h e (List.mem_cons_of_mem _ he)
    refine ⟨by show (isP d && isPs ds) = true; rw [a.isp, b1]; rfl, ?_, ?_, ?_, ?_, ?_⟩
    · simp only [pds, PyData.canLayAll0, a.lay, b2, Bool.and_self]
    · simp only [pds, PyData.leavesShortAll, a.lev, b3, Bool.and_self]
    · simp only [pds, PyData.showableAll, a.shw, b4, Bool.and_self]
    · simp only [pds, PyData.depthAll]
      exact Nat.max_le.mpr ⟨a.dep, b5⟩
    · have w := a.wgt
      have e : (n + 1) * (d :: ds).length = (n + 1) * ds.length + (n + 1) := by rw [List.length_cons, Nat.mul_add, Nat.mul_one]
      simp only [pds, PyData.weightAll]
      omega
theorem nice_tup {k m n q : Nat} {ds : List D} (h : ∀ d, d ∈ ds → Nice k m n d) (hn : (n + 1) * ds.length ≤ q) : Nice k (m + 1) q (.tup ds) := by
  obtain ⟨b1, b2, b3, b4, b5, b6⟩ := nices h
  refine ⟨b1, ?_, ?_, ?_, ?_, ?_⟩ <;> simp only [pd, PyData.canLay0, PyData.leavesShort, PyData.showable, PyData.depth, PyData.weight]
  · exact b2
  · exact b3
  · exact b4
  · omega
  · omega
theorem nice_lst {k m n q : Nat} {ds : List D} (h : ∀ d, d ∈ ds → Nice k m n d) (hn : (n + 1) * ds.length ≤ q) : Nice k (m + 1) q (.lst ds) := by
  obtain ⟨b1, b2, b3, b4, b5, b6⟩ := nices h
  refine ⟨b1, ?_, ?_, ?_, ?_, ?_⟩ <;> simp only [pd, PyData.canLay0, PyData.leavesShort, PyData.showable, PyData.depth, PyData.weight]
  · exact b2
  · exact b3
  · exact b4
  · omega
  · omega
theorem nice_str {k n : Nat} {x : Str} (h : PySem.PyData.strOk x = true) (hn : x.length ≤ n) : Nice k 0 n (.str x) := by
  refine ⟨rfl, by simpa [pd, PyData.canLay0] using h, ?_, by simp [pd, PyData.showable], by simp [pd, PyData.depth], by simp only [pd, PyData.weight]; exact hn⟩
  exact PyData.leavesShort_of_canLay0 (k + 1) (.str x) (by simpa [PyData.canLay0] using h) (by simp [PyData.intsShort])
theorem Nice.shown {k m n : Nat} {d : D} (h : Nice k m n d) (hk : 7 ≤ k) : (pd d).shown.length ≤ (k + 3) * n + k + 1 := by
  have e := PyData.shown_le (k + 1) (by omega) (pd d) h.lev
  have := Nat.mul_le_mul_left (k + 3) h.wgt
  rw [show k + 1 + 2 = k + 3 from rfl] at e
  omega
theorem Nice.okR {k m n : Nat} {d : D} (h : Nice k m n d) (hk : 7 ≤ k) (hm : m ≤ 60) (hn : (k + 3) * n + k + 1 ≤ 16777216) : reprOk (pd d) :=
  ⟨h.shw, h.lay, by have := h.shown hk; rw [sizeLine_eq]; omega, Nat.le_trans h.dep hm⟩
theorem Nice.okP {k m n : Nat} {d : D} (h : Nice k m n d) (hm : m ≤ 60) : okP d := by
  refine ⟨h.isp, ?_⟩
  have := h.dep
  unfold SeqAt.shaped
  rw [h.lay, Bool.true_and, decide_eq_true_eq]
  omega
theorem sees_self {M : MS} {d : D} (h : isP d = true) : Sees M d d := by
  cases d with
  | ref a => cases h
  | _ => rfl
theorem repr_of {k m n : Nat} {d : D} {R : PD} {M : MS} (h : Nice k m n d) (hk : 7 ≤ k) (hm : m ≤ 60) (hn : (k + 3) * n + k + 1 ≤ 16777216) (q : R (.str (pd d).shown) M) : reprD [d] R M := ⟨d, sees_self h.isp, h.isp, h.okR hk hm hn, q⟩
theorem eq_of {k m n k' m' n' : Nat} {f : Bool → Bool} {x y : D} {R : PD} {M : MS} (hx : Nice k m n x) (hy : Nice k' m' n' y) (hm : m ≤ 60) (hm' : m' ≤ 60) (h : R (.bl (f (PyData.eqv (pd x) (pd y)))) M) : eqD f x y R M := eqD_gen (hx.okP hm) (hy.okP hm') h
end L2.DL
/-! DLl: one variable or the other; further rules -/
namespace L2.DL
open PySem PySem.Spec PyProof.Rows
variable [Tbs]
def selD (k : Bool) : Option D → Option D → PD → MS → Prop
  | some (.int x), some (.int y), R, M => R (.int (if k = true then x else y)) M
  | a, b, R, M => match (if k = true then a else b) with
    | some d => R d M
    | none => False
def dIfV (tA : DTT) (i j : Nat) : DTE := fun ρ R E M => tA ρ (fun k M1 => selD k (sl ρ i) (sl ρ j) R M1) E M
theorem selD_eq {k : Bool} {a b : Option D} {R : PD} {M : MS} : selD k a b R M = (if k = true then (match a with | some d => R d M | none => False) else (match b with | some d => R d M | none => False)) := by
  unfold selD
  split
  · cases k <;> rfl
  · cases k <;> rfl
theorem dIfV_eq {tA : DTT} {i j : Nat} : dIfV tA i j = dIf tA (dVar i) (dVar j) := by
  funext ρ R E M
  unfold dIfV dIf
  congr 1
  funext k M1
  rw [selD_eq]
  rfl
theorem de_ifV {X : Cx} {W : WX} {e : Expr} {tA : DTT} {i j : Nat} (h : DE X W e (dIf tA (dVar i) (dVar j))) : DE X W e (dIfV tA i j) := by rw [dIfV_eq]; exact h
section
variable {ρ : Sl} {M : MS} {R : PD} {E : XP} {tA : DTT} {i j : Nat} {x y : Int} {k : Bool}
theorem v_ifV : dIfV tA i j ρ R E M = tA ρ (fun k M1 => selD k (sl ρ i) (sl ρ j) R M1) E M := (rfl)
theorem q_selI : selD k (some (.int x)) (some (.int y)) R M = R (.int (if k = true then x else y)) M := (rfl)
end
end L2.DL
/-! DLm: a module's constants; zip in a loop -/
namespace L2.DL
open PySem PySem.Spec PyProof.Rows
variable [Tbs]
/-- a value of the module's that tells this -/
def Kd (K : PySem.W.Frag) (u : Value) (d : D) : Prop := ∃ v, RelV v u ∧ ∀ z H M, Rel ⟨K, z⟩ H M v d
def Kds (K : PySem.W.Frag) : List Value → List D → Prop
  | [], [] => True
  | u :: us, d :: ds => Kd K u d ∧ Kds K us ds
  | _, _ => False
section
variable {K : PySem.W.Frag}
theorem kd_int {i : Int} {t : Tok} : Kd K (.int i t) (.int i) := ⟨.int i, ⟨_, rfl⟩, fun _ _ _ => .int _⟩
theorem kd_str {x : Str} {t : Tok} : Kd K (.str x t) (.str x) := ⟨.str x, ⟨_, rfl⟩, fun _ _ _ => .str _⟩
theorem kd_ref {a : Addr} : Kd K (.ref a) (.ref a) := ⟨.ref a, rfl, fun _ _ _ => .ref _⟩
theorem kds_vals : ∀ {us : List Value} {ds : List D}, Kds K us ds → ∃ vs, Vals vs us ∧ ∀ z H M, RelA ⟨K, z⟩ H M vs ds
  | [], [], _ => ⟨[], .nil, fun _ _ _ => .nil⟩
  | [], _ :: _, h => h.elim
  | _ :: _, [], h => h.elim
  | u :: us, d :: ds, h => by
    obtain ⟨⟨v, r, q⟩, hs⟩ := h
    obtain ⟨vs, r2, q2⟩ := kds_vals hs
    exact ⟨v :: vs, .cons r r2, fun z H M => .cons (q z H M) (q2 z H M)⟩
theorem kd_tup {p : Addr} {od : Option Addr} {its : Array Value} {n : Nat} {sl : Array (Option Value)} {ds : List D} (e : K.lookup p = some ⟨.type "tuple", od, .seq its n, sl⟩) (hs : Kds K its.toList ds) (hz : its.size ≤ sizeLine) : Kd K (.ref p) (.tup ds) := by
  obtain ⟨vs, r, q⟩ := kds_vals hs
  exact ⟨.ref p, rfl, fun z H M => .tup (.inr ⟨_, its, n, e, rfl, rfl, hz, r⟩) (q z H M)⟩
end
def Gd (K : PySem.W.Frag) (mg : Str → Option Value) (x : Str) (d : D) : Prop := ∃ u, mg x = some u ∧ Kd K u d
section
variable {X : Cx} {W : WX} {a b : Expr} {pos : Pos}
theorem de_gd {x : Str} {d : D} (g : Gd X.K X.mg x d) (hg : Gl X x := by rfl) (hd : (x == ("__debug__" : Str)) = false := by decide) : DE X W (.Name x pos) (dC d) := by
  obtain ⟨u, hm, v, r, q⟩ := g
  exact de_c (pe_glob (v := v) hg hm r hd) q
/-! ### zip -/
def zipD (xs ys : List D) : List D := List.zipWith (fun x y => D.tup [x, y]) xs ys
theorem zipD_at {xs ys : List D} {i : Nat} {x y : D} (h1 : xs[i]? = some x) (h2 : ys[i]? = some y) : (zipD xs ys)[i]? = some (.tup [x, y]) := by
  unfold zipD
  rw [List.getElem?_zipWith, h1, h2]
theorem zipD_len {xs ys : List D} : (zipD xs ys).length = min xs.length ys.length := List.length_zipWith
section
variable {K : ZK} {H : Hp} {M : MS}
theorem rel_pair {K : ZK} {H : Hp} {M : MS} {T : Addr} {vx vy : V} {x y : D} (h : H T = none) (m : RelM K H M) (rx : Rel K H M vx x) (ry : Rel K H M vy y) :
    Rel K (upd H T (.tup [vx, vy])) M (.ref T) (.tup [x, y]) := by
  have e := ext_new (o := .tup [vx, vy]) m h
  exact .tup (.inl (.inl upd_same)) (.cons (e _ _ rx) (.cons (e _ _ ry) .nil))
theorem itOk_zipT {a b : Addr} {xs ys : List D} (r1 : Rel K H M (.ref a) (.tup xs)) (r2 : Rel K H M (.ref b) (.tup ys)) : ItOk K (RZ.ItzT K.K a b) (zipD xs ys) H M where
  go := fun K' i H' M' hk hi m e => by
    rw [zipD_len] at hi
    cases e _ _ r1 with
    | tup s ra =>
      cases e _ _ r2 with
      | tup s2 ra2 =>
        obtain ⟨v, q, _⟩ := ra.get (List.getElem?_eq_getElem (Nat.lt_of_lt_of_le hi (Nat.min_le_left _ _)))
        obtain ⟨v2, q2, _⟩ := ra2.get (List.getElem?_eq_getElem (Nat.lt_of_lt_of_le hi (Nat.min_le_right _ _)))
        exact ⟨_, _, v, v2, hk.1 ▸ s, hk.1 ▸ s2, q, q2⟩
  stop := fun K' H' M' hk m e => by
    rw [zipD_len]
    cases e _ _ r1 with
    | tup s ra =>
      cases e _ _ r2 with
      | tup s2 ra2 =>
        refine ⟨_, _, hk.1 ▸ s, hk.1 ▸ s2, ?_⟩
        have l1 := ra.length
        have l2 := ra2.length
        omega
  yld := fun K' i x H' M' H'' hk hi m e y => by
    obtain ⟨T, vx, vy, rfl, hT, rfl, f1, f2⟩ := y
    cases e _ _ r1 with
    | tup s ra =>
      cases e _ _ r2 with
      | tup s2 ra2 =>
        obtain ⟨d1, q1, e1⟩ := ra.getV (f1 _ (hk.1 ▸ s))
        obtain ⟨d2, q2, e2⟩ := ra2.getV (f2 _ (hk.1 ▸ s2))
        exact ⟨_, zipD_at q1 q2, rel_pair hT m e1 e2, relM_new m hT, ext_new m hT⟩
theorem itOk_zipL {a b : Addr} {xs ys : List D} (r1 : Rel K H M (.ref a) (.lst xs)) (r2 : Rel K H M (.ref b) (.lst ys)) : ItOk K (Itz K.K a b) (zipD xs ys) H M where
  go := fun K' i H' M' hk hi m e => by
    rw [zipD_len] at hi
    cases e _ _ r1 with
    | lst s ra =>
      cases e _ _ r2 with
      | lst s2 ra2 =>
        obtain ⟨v, q, _⟩ := ra.get (List.getElem?_eq_getElem (Nat.lt_of_lt_of_le hi (Nat.min_le_left _ _)))
        obtain ⟨v2, q2, _⟩ := ra2.get (List.getElem?_eq_getElem (Nat.lt_of_lt_of_le hi (Nat.min_le_right _ _)))
        exact ⟨_, _, v, v2, hk.1 ▸ s.sq, hk.1 ▸ s2.sq, q, q2⟩
  stop := fun K' H' M' hk m e => by
    rw [zipD_len]
    cases e _ _ r1 with
    | lst s ra =>
      cases e _ _ r2 with
      | lst s2 ra2 =>
        refine ⟨_, _, hk.1 ▸ s.sq, hk.1 ▸ s2.sq, ?_⟩
        have l1 := ra.length
        have l2 := ra2.length
        omega
  yld := fun K' i x H' M' H'' hk hi m e y => by
    obtain ⟨T, vx, vy, rfl, hT, rfl, f1, f2⟩ := y
    cases e _ _ r1 with
    | lst s ra =>
      cases e _ _ r2 with
      | lst s2 ra2 =>
        obtain ⟨d1, q1, e1⟩ := ra.getV (f1 _ (hk.1 ▸ s.sq))
        obtain ⟨d2, q2, e2⟩ := ra2.getV (f2 _ (hk.1 ▸ s2.sq))
        exact ⟨_, zipD_at q1 q2, rel_pair hT m e1 e2, relM_new m hT, ext_new m hT⟩
end
def zipR : List D → (List D → MS → Prop) → MS → Prop
  | [.tup xs, .tup ys], R, M => R (zipD xs ys) M
  | [.lst xs, .lst ys], R, M => R (zipD xs ys) M
  | _, _, _ => False
def dZip (t : DTA) : DTI := fun ρ R E M => t ρ (fun ds M1 => zipR ds R M1) E M
theorem di_zip {t : DTA} {pp tpos : Pos} {elts : List Expr} {kk : Nat} (hm : X.mg "zip" = none) (ha : DA X W [a, b] t) (hg : Gl X "zip" := by rfl)
    (hs : starEach [a, b] X.env = (false, eval a X.env) :: starEach [b] X.env := by rfl) (hpl : (backTo pos (starEach [b] X.env)).any (·.1) = false := by rfl) :
    DI X W (.Tuple elts kk tpos) (.Call (.Name "zip" pp) [a, b] [] pos) (dZip t) :=
  impI (RZ.pi_zipA hg hm ha hs hpl) fun σ H Q ⟨z, ρ, M, R, E, hs, hm, h, hc, hE⟩ =>
    ⟨z, ρ, M, _, E, hs, hm, h, fun ds M1 vs H1 h1 m1 r1 e1 => by
      unfold zipR at h1
      split at h1
      · cases r1 with
        | cons x y =>
          cases y with
          | cons y y2 =>
            cases y2
            cases x with
            | tup s ra =>
              cases y with
              | tup s2 ra2 => exact ⟨_, _, _, _, rfl, .inr ⟨s, s2, hc _ _ _ _ h1 m1 e1 (itOk_zipT (.tup s ra) (.tup s2 ra2))⟩⟩
      · cases r1 with
        | cons x y =>
          cases y with
          | cons y y2 =>
            cases y2
            cases x with
            | lst s ra =>
              cases y with
              | lst s2 ra2 => exact ⟨_, _, _, _, rfl, .inl ⟨s.sq, s2.sq, hc _ _ _ _ h1 m1 e1 (itOk_zipL (.lst s ra) (.lst s2 ra2))⟩⟩
      · exact h1.elim, hE⟩
end
section
variable {ρ : Sl} {M : MS} {t : DTA} {xs ys : List D} {R : List D → MS → Prop}
theorem v_zip : dZip t ρ = fun (R : List D → MS → Prop) E M => t ρ (fun ds M1 => zipR ds R M1) E M := (rfl)
theorem q_zipT : zipR [.tup xs, .tup ys] R M = R (zipD xs ys) M := (rfl)
theorem q_zipL : zipR [.lst xs, .lst ys] R M = R (zipD xs ys) M := (rfl)
end
end L2.DL
/-! DLn: fractions (plain) -/
namespace L2.DL
open PySem PySem.Spec PyProof.Rows
variable [Tbs]
/-- a fraction as the program writes it -/
def eF (q : Rat) : D := .tup [.int q.num, .int q.den]
theorem rat_num {a b g : Int} (hb : 0 < b) (e : g = ((Int.gcd a b : Nat) : Int)) : a.fdiv g = (Rat.divInt a b).num := by
  have hd : g ∣ a := by rw [e]; exact Int.gcd_dvd_left ..
  rw [Int.fdiv_eq_ediv_of_dvd hd, Rat.num_divInt, Int.sign_eq_one_of_pos hb, Int.one_mul, Int.gcd_comm, e]
theorem rat_den {a b g : Int} (hb : 0 < b) (e : g = ((Int.gcd a b : Nat) : Int)) : b.fdiv g = ((Rat.divInt a b).den : Int) := by
  have hd : g ∣ b := by rw [e]; exact Int.gcd_dvd_right ..
  rw [Int.fdiv_eq_ediv_of_dvd hd, Rat.den_divInt, if_neg (by omega), Int.gcd_comm b a, e, Int.natCast_ediv]
  rw [show ((b.natAbs : Nat) : Int) = b by omega]
theorem ratn_num {a b g : Int} (hb : b < 0) (e : g = ((Int.gcd a b : Nat) : Int)) : a.fdiv (0 - g) = (Rat.divInt a b).num := by
  have h := rat_num (a := -a) (b := -b) (g := g) (by omega) (by rw [e, Int.gcd_neg, Int.neg_gcd])
  rw [Rat.neg_divInt_neg] at h
  rw [← h, Int.zero_sub]
  have hd : g ∣ a := by rw [e]; exact Int.gcd_dvd_left ..
  rw [Int.fdiv_eq_ediv_of_dvd (Int.neg_dvd.mpr hd), Int.fdiv_eq_ediv_of_dvd (Int.dvd_neg.mpr hd), Int.ediv_neg, Int.neg_ediv_of_dvd hd]
theorem ratn_den {a b g : Int} (hb : b < 0) (e : g = ((Int.gcd a b : Nat) : Int)) : b.fdiv (0 - g) = ((Rat.divInt a b).den : Int) := by
  have h := rat_den (a := -a) (b := -b) (g := g) (by omega) (by rw [e, Int.gcd_neg, Int.neg_gcd])
  rw [Rat.neg_divInt_neg] at h
  rw [← h, Int.zero_sub]
  have hd : g ∣ b := by rw [e]; exact Int.gcd_dvd_right ..
  rw [Int.fdiv_eq_ediv_of_dvd (Int.neg_dvd.mpr hd), Int.fdiv_eq_ediv_of_dvd (Int.dvd_neg.mpr hd), Int.ediv_neg, Int.neg_ediv_of_dvd hd]
/-! sizes -/
def Bd (n : Nat) (i : Int) : Prop := i.natAbs < 2 ^ n
theorem Bd.mono {n m : Nat} {i : Int} (h : Bd n i) (k : n ≤ m) : Bd m i := Nat.lt_of_lt_of_le h (Nat.pow_le_pow_right (by decide) k)
theorem Bd.mul {n m : Nat} {i j : Int} (h : Bd n i) (k : Bd m j) : Bd (n + m) (i * j) := by
  unfold Bd
  rw [Int.natAbs_mul, Nat.pow_add]
  exact Nat.mul_lt_mul'' h k
theorem Bd.add {n : Nat} {i j : Int} (h : Bd n i) (k : Bd n j) : Bd (n + 1) (i + j) := by
  unfold Bd at *
  have := Int.natAbs_add_le i j
  rw [Nat.pow_succ]
  omega
theorem Bd.neg {n : Nat} {i : Int} (h : Bd n i) : Bd n (-i) := by unfold Bd; rw [Int.natAbs_neg]; exact h
theorem Bd.sub {n : Nat} {i j : Int} (h : Bd n i) (k : Bd n j) : Bd (n + 1) (i - j) := by rw [Int.sub_eq_add_neg]; exact h.add k.neg
theorem Bd.log {n : Nat} {i : Int} (h : Bd n i) (hn : 0 < n) : i.natAbs.log2 < n := log2_lt h hn
theorem Bd.cmul {n m : Nat} {i j : Int} (h : Bd n i) (k : Bd m j) (hn : n ≤ 400000) (hm : m ≤ 400000) : CMulX i j := by
  have a := (h.mono (Nat.le_succ n)).log (Nat.succ_pos n)
  have b := (k.mono (Nat.le_succ m)).log (Nat.succ_pos m)
  unfold CMulX
  omega
theorem Bd.of_le {n : Nat} {i j : Int} (h : Bd n j) (k : i.natAbs ≤ j.natAbs) : Bd n i := Nat.lt_of_le_of_lt k h
theorem bd_of {n : Nat} {i : Int} (h : i.natAbs < 2 ^ n) : Bd n i := h
theorem Bd.lt {n : Nat} {i : Int} (h : Bd n i) : i.natAbs < 2 ^ n := h
/-- both parts of the fraction below 2^n -/
structure Sz (n : Nat) (q : Rat) : Prop where
  num : Bd n q.num
  den : Bd n (q.den : Int)
theorem Sz.mono {n m : Nat} {q : Rat} (h : Sz n q) (k : n ≤ m) : Sz m q := ⟨h.num.mono k, h.den.mono k⟩
theorem sz_divInt {n : Nat} {a b : Int} (ha : Bd n a) (hb : Bd n b) (h0 : b ≠ 0) : Sz n (Rat.divInt a b) := by
  refine ⟨ha.of_le ?_, hb.of_le ?_⟩
  · rw [Rat.num_divInt, Int.natAbs_ediv_of_dvd]
    · refine Nat.le_trans (Nat.div_le_self _ _) ?_
      rw [Int.natAbs_mul, Int.natAbs_sign_of_ne_zero h0, Nat.one_mul]
      exact Nat.le_refl _
    · exact Int.dvd_mul_of_dvd_right (Int.gcd_dvd_right ..)
  · rw [Rat.den_divInt, if_neg h0]
    exact Nat.div_le_self _ _
theorem den_pos (q : Rat) : (0 : Int) < q.den := by have := q.den_pos; omega
theorem den_ne (q : Rat) : (q.den : Int) ≠ 0 := by have := den_pos q; omega
theorem self_eq (q : Rat) : Rat.divInt q.num q.den = q := Rat.num_divInt_den q
theorem add_eq (p q : Rat) : Rat.divInt (p.num * q.den + q.num * p.den) (p.den * q.den) = p + q := by
  rw [← Rat.divInt_add_divInt _ _ (den_ne p) (den_ne q), self_eq, self_eq]
theorem sub_eq (p q : Rat) : Rat.divInt (p.num * q.den - q.num * p.den) (p.den * q.den) = p - q := by
  rw [← Rat.divInt_sub_divInt _ _ (den_ne p) (den_ne q), self_eq, self_eq]
theorem mul_eq (p q : Rat) : Rat.divInt (p.num * q.num) (p.den * q.den) = p * q := by
  rw [← Rat.divInt_mul_divInt, self_eq, self_eq]
theorem Sz.add {n m : Nat} {p q : Rat} (h : Sz n p) (k : Sz m q) : Sz (n + m + 1) (p + q) := by
  rw [← add_eq]
  have e := k.num.mul h.den
  rw [Nat.add_comm] at e
  exact sz_divInt ((h.num.mul k.den).add e) ((h.den.mul k.den).mono (Nat.le_succ _)) (Int.mul_ne_zero (den_ne p) (den_ne q))
theorem Sz.sub {n m : Nat} {p q : Rat} (h : Sz n p) (k : Sz m q) : Sz (n + m + 1) (p - q) := by
  rw [← sub_eq]
  have e := k.num.mul h.den
  rw [Nat.add_comm] at e
  exact sz_divInt ((h.num.mul k.den).sub e) ((h.den.mul k.den).mono (Nat.le_succ _)) (Int.mul_ne_zero (den_ne p) (den_ne q))
theorem Sz.mul {n m : Nat} {p q : Rat} (h : Sz n p) (k : Sz m q) : Sz (n + m) (p * q) := by
  rw [← mul_eq]
  exact sz_divInt (h.num.mul k.num) (h.den.mul k.den) (Int.mul_ne_zero (den_ne p) (den_ne q))
theorem eF_inj {p q : Rat} (h : eF p = eF q) : p = q := by
  unfold eF at h
  simp only [D.tup.injEq, List.cons.injEq, D.int.injEq, and_true] at h
  exact Rat.ext h.1 (by omega)
theorem Sz.nice {n : Nat} {q : Rat} (h : Sz n q) {k : Nat} (hn : 2 ^ n ≤ 10 ^ k) (hk : 0 < k) (hk2 : k ≤ 400) : Nice k 1 (8 * k + 2) (eF q) := by
  refine nice_tup (n := 4 * k) (fun d hd => ?_) (by simp only [List.length_cons, List.length_nil]; omega)
  simp only [List.mem_cons, List.not_mem_nil, or_false] at hd
  rcases hd with rfl | rfl
  · exact nice_int hk hk2 (Nat.lt_of_lt_of_le h.num hn)
  · exact nice_int hk hk2 (Nat.lt_of_lt_of_le h.den hn)
/-- fractions are compared by value, whatever their size -/
theorem okP_eF (q : Rat) : okP (eF q) := ⟨rfl, by simp [eF, pd, pds, SeqAt.shaped, PyData.canLay0, PyData.canLayAll0, PyData.depth, PyData.depthAll]⟩
theorem eqv_eF (p q : Rat) : PyData.eqv (pd (eF p)) (pd (eF q)) = decide (p = q) := by
  have e : PyData.eqv (pd (eF p)) (pd (eF q)) = (decide (p.num = q.num) && decide ((p.den : Int) = q.den)) := by
    simp [eF, pd, pds, PyData.eqv, PyData.eqvAll]
    rfl
  rw [e, Bool.eq_iff_iff]
  simp only [Bool.and_eq_true, decide_eq_true_eq]
  constructor
  · exact fun h => Rat.ext h.1 (by omega)
  · rintro rfl; exact ⟨rfl, rfl⟩
theorem eq_eF {f : Bool → Bool} {p q : Rat} {R : PD} {M : MS} (h : R (.bl (f (decide (p = q)))) M) : eqD f (eF p) (eF q) R M := eqD_gen (okP_eF p) (okP_eF q) (by rw [eqv_eF]; exact h)
end L2.DL
namespace L2.DL
open PySem PySem.Spec PyProof.Rows
variable [Tbs]
/-- while, by a measure -/
theorem while_ind {tA : DTT} {t : DTS} {De : DEnds} (I : Nat → Sl → MS → Prop)
    (step : ∀ m ρ M (Kx : Sl → MS → Prop), I m ρ M → (∀ m' ρ' M', m' < m → I m' ρ' M' → Kx ρ' M') → tA ρ (fun k M1 => if k = true then t { De with nx := Kx, ct := Kx, bk := De.nx } ρ M1 else De.nx ρ M1) De.ex M) {m : Nat} {ρ : Sl} {M : MS} (h : I m ρ M) : dWhile tA t De ρ M := by
  have key : ∀ n m ρ M, m < n → I m ρ M → whileW tA t De n ρ M := by
    intro n
    induction n with
    | zero => intro m ρ M h; omega
    | succ n ih =>
      intro m ρ M hm hI
      exact step m ρ M _ hI fun m' ρ' M' h1 h2 => ih m' ρ' M' (by omega) h2
  exact ⟨m + 1, key (m + 1) m ρ M (Nat.lt_succ_self m) h⟩
theorem gcd_step {a b : Int} (ha : 0 ≤ a) (hb : 0 < b) : Int.gcd b (a.fmod b) = Int.gcd a b := by
  obtain ⟨m, rfl⟩ := Int.eq_ofNat_of_zero_le ha
  obtain ⟨n, rfl⟩ := Int.eq_ofNat_of_zero_le (Int.le_of_lt hb)
  rw [Int.fmod_eq_emod_of_nonneg _ (by omega), ← Int.natCast_emod, Int.gcd_natCast_natCast, Int.gcd_natCast_natCast, Nat.gcd_comm m n, Nat.gcd_rec n m, Nat.gcd_comm]
end L2.DL
/-! DLo: comprehensions over mapped lists; tuples of fractions -/
namespace L2.DL
open PySem PySem.Spec PyProof.Rows
variable [Tbs]
theorem lc_mapG {α : Type} {p : Pat} {te : DTE} {vs : List Nat} {ρ : Sl} {R : List D → MS → Prop} {M : MS} (e g : α → D) {ps : List α}
    (step : ∀ x, x ∈ ps → ∀ (R : PD), R (g x) M → patW p (e x) (wipeD ρ vs) (fun ρ1 M1 => te ρ1 R noX M1) M)
    (hn : ps.length ≤ sizeLine) (fin : R (ps.map g) M) : lcW p dYes te vs ρ R (ps.map e) [] M := by
  refine lc_ind (fun its acc M' => M' = M ∧ ∃ pre suf, its = suf.map e ∧ ps = pre ++ suf ∧ acc = pre.map g) ?_ ?_ ⟨rfl, [], ps, rfl, rfl, rfl⟩
  · rintro d ds acc M' Kx ⟨rfl, pre, suf, e0, e1, e2⟩ hk
    cases suf with
    | nil => cases e0
    | cons x suf =>
      cases e0
      have hl : acc.length < sizeLine := by
        rw [e2, List.length_map]
        have := congrArg List.length e1
        rw [List.length_append, List.length_cons] at this
        omega
      exact step x (by rw [e1]; exact List.mem_append_right _ List.mem_cons_self) (fun y M3 => acc.length < sizeLine ∧ Kx (acc ++ [y]) M3) ⟨hl, hk _ _ ⟨rfl, pre ++ [x], suf, rfl, by rw [e1, List.append_assoc]; rfl, by rw [e2, List.map_append]; rfl⟩⟩
  · rintro acc M' ⟨rfl, pre, suf, e0, e1, e2⟩
    have : suf = [] := by cases suf <;> first | rfl | cases e0
    subst this
    rw [List.append_nil] at e1
    rw [e2, ← e1]
    exact fin
theorem zipD_map {α β : Type} (e1 : α → D) (e2 : β → D) : ∀ (us : List α) (cs : List β), zipD (us.map e1) (cs.map e2) = (us.zip cs).map (fun p => .tup [e1 p.1, e2 p.2])
  | [], _ => rfl
  | _ :: _, [] => rfl
  | u :: us, c :: cs => by
    show D.tup [e1 u, e2 c] :: zipD (us.map e1) (cs.map e2) = _
    rw [zipD_map e1 e2 us cs]
    rfl
/-- tuples of fractions -/
def eFs (qs : List Rat) : D := .tup (qs.map eF)
theorem pds_eFs : ∀ qs : List Rat, isPs (qs.map eF) = true ∧ PyData.canLayAll0 (pds (qs.map eF)) = true ∧ PyData.depthAll (pds (qs.map eF)) ≤ 1
  | [] => ⟨rfl, by simp [pds, PyData.canLayAll0], by simp [pds, PyData.depthAll]⟩
  | q :: qs => by
    obtain ⟨a, b, c⟩ := pds_eFs qs
    refine ⟨by show (true && isPs (qs.map eF)) = true; rw [a]; rfl, ?_, ?_⟩
    · simp [List.map_cons, pds, eF, pd, PyData.canLayAll0, PyData.canLay0, b]
    · simp [List.map_cons, pds, eF, pd, PyData.depthAll, PyData.depth]
      omega
theorem okP_of {d : D} (h1 : isP d = true) (h2 : (pd d).canLay0 = true) (h3 : (pd d).depth ≤ 64) : okP d := by
  refine ⟨h1, ?_⟩
  unfold SeqAt.shaped
  rw [h2, decide_eq_true h3]
  rfl
theorem okP_eFs (qs : List Rat) : okP (eFs qs) := by
  obtain ⟨a, b, c⟩ := pds_eFs qs
  refine okP_of a ?_ ?_
  · simp only [eFs, pd, PyData.canLay0, b]
  · simp only [eFs, pd, PyData.depth]; omega
theorem eqvA_eFs : ∀ ps qs : List Rat, PyData.eqvAll (pds (ps.map eF)) (pds (qs.map eF)) = decide (ps = qs)
  | [], [] => by simp [pds, PyData.eqvAll]
  | [], _ :: _ => by simp [pds, PyData.eqvAll]
  | _ :: _, [] => by simp [pds, PyData.eqvAll]
  | p :: ps, q :: qs => by
    have h : PyData.eqvAll (pds ((p :: ps).map eF)) (pds ((q :: qs).map eF)) = (PyData.eqv (pd (eF p)) (pd (eF q)) && PyData.eqvAll (pds (ps.map eF)) (pds (qs.map eF))) := by
      simp [pds, PyData.eqvAll]
    rw [h, eqv_eF, eqvA_eFs ps qs]
    simp [Bool.decide_and]
theorem eq_eFs {f : Bool → Bool} {ps qs : List Rat} {R : PD} {M : MS} (h : R (.bl (f (decide (ps = qs)))) M) : eqD f (eFs ps) (eFs qs) R M := by
  refine eqD_gen (okP_eFs ps) (okP_eFs qs) ?_
  have e : PyData.eqv (pd (eFs ps)) (pd (eFs qs)) = decide (ps = qs) := by
    rw [← eqvA_eFs]
    simp [eFs, pd, PyData.eqv]
  rw [e]
  exact h
theorem repr_bl {b : Bool} {R : PD} {M : MS} (h : R (.str (pd (.bl b)).shown) M) : reprD [.bl b] R M := repr_of (k := 7) nice_bl (by decide) (by decide) (by decide) h
end L2.DL
/-! DLp: isinstance by built-in classes; is True -/
namespace L2.DL
open PySem PySem.Spec PyProof.Rows
variable [Tbs]
/-- the name of a value's class -/
def tyN (M : MS) : D → Option String
  | .non => some "NoneType"
  | .bl _ => some "bool"
  | .int _ => some "int"
  | .str _ => some "str"
  | .tup _ => some "tuple"
  | .lst _ => some "list"
  | .scr _ => some "list"
  | .ref a => match M a with
    | some (.lst _) => some "list"
    | _ => none
  | .ty _ => none
  | .fn _ => none
  | .clo _ _ _ => none
theorem tyx_of {K : ZK} {H : Hp} {M : MS} {v : V} {d : D} {t : String} (m : RelM K H M) (r : Rel K H M v d) (h : tyN M d = some t) : TyX K.K H v (.type t) := by
  cases r with
  | non => cases h; exact .base .non
  | bl b => cases h; exact .base (.bl b)
  | int i => cases h; exact .base (.int i)
  | str x => cases h; exact .base (.str x)
  | ty n => cases h
  | fn s => cases h
  | clo s _ _ => cases h
  | tup s ra =>
    cases h
    rcases s with (s | ⟨ob, s⟩) | ⟨o, its, n, e, c, _⟩
    · exact .base (.tup s)
    · exact .fTuple s
    · exact .kTuple e c
  | lst s ra =>
    cases h
    exact .base (.lst s.2)
  | scr s =>
    cases h
    rcases s with ⟨ob, s⟩ | ⟨o, its, n, e, c, _⟩
    · exact .base (.frz s)
    · exact .kList e c
  | ref a =>
    have h' : (match M a with
      | some (.lst _) => some "list"
      | _ => none) = some t := h
    split at h'
    · rename_i ds q
      cases h'
      obtain ⟨vs, q1, _⟩ := m.at' a _ q
      exact .base (.lst q1)
    · cases h'
def isiD : List D → PD → MS → Prop
  | [x, .ty T], R, M => ∃ t b, tyN M x = some t ∧ kitB t T = some b ∧ R (.bl b) M
  | _, _, _ => False
theorem c_isi {X : Cx} : CallD X (.builtin "isinstance") isiD := by
  refine ⟨_, call_isi, fun z H M xs vs R Q m ra h hc => ?_⟩
  unfold isiD at h
  split at h
  · obtain ⟨t, b, h1, h2, q⟩ := h
    cases ra with
    | cons x y =>
      cases y with
      | cons y y2 =>
        cases y2
        cases y
        exact ⟨_, _, _, _, b, rfl, .ty _, tyx_of m x h1, kit_ty h2, hc.here q m (.bl _)⟩
  · exact h.elim
theorem bt_isinstance : bootBuiltins "isinstance" = some (.builtin "isinstance") := by decide +kernel
theorem bt_bool : bootBuiltins "bool" = some (.type "bool") := by decide +kernel
theorem bt_str : bootBuiltins "str" = some (.type "str") := by decide +kernel
/-- a built-in class by its name -/
theorem de_ty {X : Cx} {W : WX} {x : Str} {n : String} {pos : Pos} (hm : X.mg x = none) (hv : bootBuiltins x = some (.type n)) (hg : Gl X x := by rfl) (hn : x ≠ "__name__" := by decide) (hd : (x == ("__debug__" : Str)) = false := by decide) : DE X W (.Name x pos) (dC (.ty n)) :=
  de_c (v := .ty n) (pe_bltn hg hm hv rfl hn hd) fun _ _ _ => .ty _
section
variable {R : PD} {M : MS}
theorem isi_eq {x : D} {T t : String} {b : Bool} (h1 : tyN M x = some t) (h2 : kitB t T = some b) : isiD [x, .ty T] R M = R (.bl b) M := by
  apply propext
  constructor
  · rintro ⟨t', b', e1, e2, q⟩
    rw [h1] at e1
    cases e1
    rw [h2] at e2
    cases e2
    exact q
  · exact fun q => ⟨t, b, h1, h2, q⟩
theorem q_isi_non_int  : isiD [.non, .ty "int"] R M = R (.bl false) M := isi_eq (t := "NoneType") rfl (by decide +kernel)
theorem q_isi_non_bool  : isiD [.non, .ty "bool"] R M = R (.bl false) M := isi_eq (t := "NoneType") rfl (by decide +kernel)
theorem q_isi_non_str  : isiD [.non, .ty "str"] R M = R (.bl false) M := isi_eq (t := "NoneType") rfl (by decide +kernel)
theorem q_isi_non_tuple  : isiD [.non, .ty "tuple"] R M = R (.bl false) M := isi_eq (t := "NoneType") rfl (by decide +kernel)
theorem q_isi_non_list  : isiD [.non, .ty "list"] R M = R (.bl false) M := isi_eq (t := "NoneType") rfl (by decide +kernel)
theorem q_isi_bl_int {b : Bool} : isiD [(.bl b), .ty "int"] R M = R (.bl true) M := isi_eq (t := "bool") rfl (by decide +kernel)
theorem q_isi_bl_bool {b : Bool} : isiD [(.bl b), .ty "bool"] R M = R (.bl true) M := isi_eq (t := "bool") rfl (by decide +kernel)
theorem q_isi_bl_str {b : Bool} : isiD [(.bl b), .ty "str"] R M = R (.bl false) M := isi_eq (t := "bool") rfl (by decide +kernel)
theorem q_isi_bl_tuple {b : Bool} : isiD [(.bl b), .ty "tuple"] R M = R (.bl false) M := isi_eq (t := "bool") rfl (by decide +kernel)
theorem q_isi_bl_list {b : Bool} : isiD [(.bl b), .ty "list"] R M = R (.bl false) M := isi_eq (t := "bool") rfl (by decide +kernel)
theorem q_isi_int_int {i : Int} : isiD [(.int i), .ty "int"] R M = R (.bl true) M := isi_eq (t := "int") rfl (by decide +kernel)
theorem q_isi_int_bool {i : Int} : isiD [(.int i), .ty "bool"] R M = R (.bl false) M := isi_eq (t := "int") rfl (by decide +kernel)
theorem q_isi_int_str {i : Int} : isiD [(.int i), .ty "str"] R M = R (.bl false) M := isi_eq (t := "int") rfl (by decide +kernel)
theorem q_isi_int_tuple {i : Int} : isiD [(.int i), .ty "tuple"] R M = R (.bl false) M := isi_eq (t := "int") rfl (by decide +kernel)
theorem q_isi_int_list {i : Int} : isiD [(.int i), .ty "list"] R M = R (.bl false) M := isi_eq (t := "int") rfl (by decide +kernel)
theorem q_isi_str_int {s : Str} : isiD [(.str s), .ty "int"] R M = R (.bl false) M := isi_eq (t := "str") rfl (by decide +kernel)
theorem q_isi_str_bool {s : Str} : isiD [(.str s), .ty "bool"] R M = R (.bl false) M := isi_eq (t := "str") rfl (by decide +kernel)
theorem q_isi_str_str {s : Str} : isiD [(.str s), .ty "str"] R M = R (.bl true) M := isi_eq (t := "str") rfl (by decide +kernel)
theorem q_isi_str_tuple {s : Str} : isiD [(.str s), .ty "tuple"] R M = R (.bl false) M := isi_eq (t := "str") rfl (by decide +kernel)
theorem q_isi_str_list {s : Str} : isiD [(.str s), .ty "list"] R M = R (.bl false) M := isi_eq (t := "str") rfl (by decide +kernel)
theorem q_isi_tup_int {ds : List D} : isiD [(.tup ds), .ty "int"] R M = R (.bl false) M := isi_eq (t := "tuple") rfl (by decide +kernel)
theorem q_isi_tup_bool {ds : List D} : isiD [(.tup ds), .ty "bool"] R M = R (.bl false) M := isi_eq (t := "tuple") rfl (by decide +kernel)
theorem q_isi_tup_str {ds : List D} : isiD [(.tup ds), .ty "str"] R M = R (.bl false) M := isi_eq (t := "tuple") rfl (by decide +kernel)
theorem q_isi_tup_tuple {ds : List D} : isiD [(.tup ds), .ty "tuple"] R M = R (.bl true) M := isi_eq (t := "tuple") rfl (by decide +kernel)
theorem q_isi_tup_list {ds : List D} : isiD [(.tup ds), .ty "list"] R M = R (.bl false) M := isi_eq (t := "tuple") rfl (by decide +kernel)
theorem q_isi_lst_int {ds : List D} : isiD [(.lst ds), .ty "int"] R M = R (.bl false) M := isi_eq (t := "list") rfl (by decide +kernel)
theorem q_isi_lst_bool {ds : List D} : isiD [(.lst ds), .ty "bool"] R M = R (.bl false) M := isi_eq (t := "list") rfl (by decide +kernel)
theorem q_isi_lst_str {ds : List D} : isiD [(.lst ds), .ty "str"] R M = R (.bl false) M := isi_eq (t := "list") rfl (by decide +kernel)
theorem q_isi_lst_tuple {ds : List D} : isiD [(.lst ds), .ty "tuple"] R M = R (.bl false) M := isi_eq (t := "list") rfl (by decide +kernel)
theorem q_isi_lst_list {ds : List D} : isiD [(.lst ds), .ty "list"] R M = R (.bl true) M := isi_eq (t := "list") rfl (by decide +kernel)
end
/-! x is None, b is True -/
def isX (f : Bool → Bool) : D → D → PD → MS → Prop
  | .bl a, .bl b, R, M => R (.bl (f (decide (a = b)))) M
  | x, y, R, M => isD f x y R M
theorem o_isX {X : Cx} : OpD X (compareOp .Is) (isX id) := by
  obtain ⟨r, h1, h2⟩ := o_is (X := X)
  refine ⟨_, op_is_bl.or h1, fun z H M x y vx vy R Q m rx ry h hc => ?_⟩
  unfold isX at h
  split at h
  · cases rx
    cases ry
    exact .inl ⟨_, _, rfl, rfl, hc.here h m (.bl _)⟩
  · exact .inr (h2 _ _ _ _ _ _ _ _ _ m rx ry h hc)
theorem o_isnotX {X : Cx} : OpD X (compareOp .IsNot) (isX fun k => !k) := by
  obtain ⟨r, h1, h2⟩ := o_isnot (X := X)
  refine ⟨_, op_isnot_bl.or h1, fun z H M x y vx vy R Q m rx ry h hc => ?_⟩
  unfold isX at h
  split at h
  · cases rx
    cases ry
    exact .inl ⟨_, _, rfl, rfl, hc.here h m (.bl _)⟩
  · exact .inr (h2 _ _ _ _ _ _ _ _ _ m rx ry h hc)
section
variable {R : PD} {M : MS} {f : Bool → Bool} {x : D} {a b : Bool}
theorem q_isX : isX f x .non R M = R (.bl (f (isNon x))) M := by cases x <;> rfl
theorem q_isB : isX f (.bl a) (.bl b) R M = R (.bl (f (decide (a = b)))) M := (rfl)
end
end L2.DL
/-! DLq: zip of two tuples, strict, at the library's level -/
namespace L2.DL
open PySem
variable [Tbs]
theorem zs_type (a b : Value) : checkTypeCall "zip" ⟨[a, b], [("strict", .bool true)]⟩ = pure () := by kernel_rfl
theorem zs_new (a b : Value) : checkBuiltinCall "zip.__new__" ⟨[.type "zip", a, b], [("strict", .bool true)]⟩ = pure () := by kernel_rfl
theorem zs_init (a b c : Value) : argsOk "object.__init__" ⟨[a, b, c], [("strict", .bool true)]⟩ := by
  unfold argsOk; rw [signature?_of (id := "object.__init__") (n := ['_', '_', 't', 'i', 'n', 'i', '_', '_']) (o := ['t', 'c', 'e', 'j', 'b', 'o']) (by kernel_rfl) F.owner_object]; kernel_rfl
section
variable {prog : Program} {w : World} {A : Around} {E : Value → Shared → Prop} {s : Shared}
/-- a built-in class called with keywords -/
theorem typeKw_meets {T newId initId : String} {Bn Bi : Builtin} {args : List Value} {kw : List (Str × Value)} {S : Spec} {Q Q₁ : Value → Shared → Prop} (ft : TypeCalled T newId initId)
    (hct : checkTypeCall T ⟨args, kw⟩ = pure ()) (hcn : checkBuiltinCall newId ⟨.type T :: args, kw⟩ = pure ())
    (entryN : entryFor table newId = some Bn) (entryI : entryFor table initId = some Bi) (g : Meets (Bn ⟨.type T :: args, kw⟩) S)
    (h : S A.in1 (wants Q₁ E) s)
    (hnext : ∀ obj s₁, Q₁ obj s₁ → s₁.TypeIs obj T ∧ argsOk initId ⟨obj :: args, kw⟩ ∧ ∃ Si, Meets (Bi ⟨obj :: args, kw⟩) Si ∧ Si A.in1 (wants (fun r s₂ => r = .none ∧ Q obj s₂) E) s₁) :
    wpAny (model prog w) A (call (.type T) args kw) Q E s := by
  obtain ⟨c, tl, hm⟩ := ft.mro
  have e1 := ft.made
  have e2 := ft.sub
  refine wpAny_call (codeAny_of_tree ?_)
  show wpAny _ _ (callAny (.type T) _) _ _ _
  refine wpAny_pure ⟨Code.quiet_builtin _ (by decide +kernel), codeAny_builtin F.entry_type_call ?_⟩
  rw [Around.under_plain (weight_type_call_type T args kw) (units_type_call_type T args kw)]
  have e3 := ft.notType
  have e4 := ft.canCreate
  repeat (any_goals (first | assumption | wp_step))
  refine codeAny_mono (codeAny_call_builtin ft.plain entryN (wpAny_of_eq hcn (g prog w A.in1 _ s h))) fun rz sz hz => ?_
  cases rz with
  | error e => exact hz
  | ok fl =>
    cases fl with
    | ret obj =>
      obtain ⟨z1, z2, Si, z3, z4⟩ := hnext _ _ hz
      have z5 := ft.init.lookup
      have z6 := ft.init.bind obj
      repeat (any_goals (first | assumption | wp_step))
      refine codeAny_mono (codeAny_call_builtin ft.init.plain entryI (ft.init.check _ _ _ _ _ _ _ _ z1 z2 (z3 prog w A.in1 _ sz z4))) fun ry sy hy => ?_
      cases ry with
      | error e => exact hy
      | ok fy =>
        cases fy with
        | ret r =>
          obtain ⟨rfl, hq⟩ := hy
          repeat (any_goals (first | assumption | wp_step))
        | _ => exact hy.elim
    | _ => exact hz.elim
theorem objInit_kw {T newId : String} {self : Value} {rest : List Value} {kw : List (Str × Value)} (hl : typeLookup (.type T) "__init__" = pure (some (.builtin "object.__init__")))
    (hm : Bind.madeBy (.type T) = pure (some newId)) (hne : (some newId != some "object.__new__") = true) :
    Meets (Builtin.«object.__init__» ⟨self :: rest, kw⟩) (fun _ R s => s.TypeIs self T ∧ R (.ok (.ret .none)) s) := by
  refine Meets.of_wp fun prog w A R s hs => ?_
  obtain ⟨hT, hq⟩ := hs
  cases rest with
  | nil => 
    cases kw with
    | nil => exact wpAny_pure ⟨_, rfl, hq⟩
    | cons k kw =>
      repeat (any_goals (first | assumption | wp_step))
      exact ⟨_, rfl, hq⟩
  | cons a rest =>
    repeat (any_goals (first | assumption | wp_step))
    exact ⟨_, rfl, hq⟩
end
abbrev zsK : List (Str × Value) := [("strict", .bool true)]
/-- zip's own object, strict -/
abbrev IsZs (h : Heap) (z TI TO : Addr) (f0 : Value) (b : Bool) : Prop :=
  h.get? z = some { cls := .type "zip", dict := none, data := .fields #[f0, .bool b, .bool true, .ref TI, .ref TO], slots := #[] }
abbrev zsH5 (h : Heap) (l1 l2 : Addr) : Heap := (RZ.zipTH4 h l1 l2).push { cls := .type "zip", data := .fields #[.none, .bool false, .bool true, .ref (RZ.zipTH2 h l1 l2).objs.size, .ref (RZ.zipTH3 h l1 l2).objs.size] }
theorem zs_meets (l1 l2 : Addr) (xs ys : Array Value) :
    Meets (Builtin.«zip.__new__» ⟨[.type "zip", .ref l1, .ref l2], zsK⟩) (fun _ R s => s.heap.IsTuple l1 xs ∧ s.heap.IsTuple l2 ys ∧
      R (.ok (.ret (.ref (RZ.zipTH4 s.heap l1 l2).objs.size))) { s with heap := zsH5 s.heap l1 l2 }) :=
  .of_wp fun prog w A R s h => by
    obtain ⟨hp, g, d, tk, os⟩ := s; obtain ⟨h1, h2, h⟩ := h
    have hsub := sub_zip
    have t1 : Heap.IsTuple (Shared.heap ⟨hp, g, d, tk, os⟩) l1 xs := h1
    have t2 : Heap.IsTuple (Shared.heap ⟨hp.push { cls := .type "tuple_iterator", data := .fields #[.ref l1, .int 0 0] }, g, d, tk, os⟩) l2 ys := Heap.IsTuple.push h2 _
    wp_walk using wpAny_pyIter_tuple t1, wpAny_pyIter_tuple t2
    exact ⟨_, rfl, h⟩
end L2.DL
namespace L2.DL
open PySem
variable [Tbs]
section
variable {prog : Program} {w : World} {A : Around} {E : Value → Shared → Prop} {s : Shared}
theorem orEnd_item {it l : Addr} {i : Nat} {items : Array Value} {x : Value} {Q : Option Value → Shared → Prop} (h1 : s.heap.IsTupleIter it l i) (h2 : s.heap.IsTuple l items) (hx : items[i]? = some x)
    (hQ : ∀ h', h'.IsTupleIter it l (i + 1) → Heap.SameBut it s.heap h' → Q (some x) { s with heap := h' }) : wpAny (model prog w) A (Builtin.SmallTypes.nextOrEnd (.ref it)) Q E s := by
  unfold Builtin.SmallTypes.nextOrEnd
  exact wpAny_bind (wpAny_attempt (RZ.nextOf_tuple_item h1 h2 hx fun h' a b => wpAny_pure (hQ h' a b)))
theorem orEnd_end {it l : Addr} {i : Nat} {items : Array Value} {Q : Option Value → Shared → Prop} (hh : A.handled = none) (h1 : s.heap.IsTupleIter it l i) (h2 : s.heap.IsTuple l items) (hx : items[i]? = none)
    (hQ : ∀ h', Heap.ExtBut it s.heap h' → Q none { s with heap := h' }) : wpAny (model prog w) A (Builtin.SmallTypes.nextOrEnd (.ref it)) Q E s := by
  unfold Builtin.SmallTypes.nextOrEnd
  refine wpAny_bind (wpAny_attempt (RZ.nextOf_tuple_end hh h1 h2 hx fun h' e k he => ?_))
  obtain ⟨o, ho, hc⟩ := he
  refine wpAny_bind (wpAny_isInstance (T := "StopIteration") (b := true) ⟨o, ho, hc⟩ isSubtype_stop ?_)
  exact wpAny_pure (hQ h' k)
/-- the first pair: the zip's own tuple is free -/
theorem zs_first {z TI TO i1 i2 l1 l2 : Addr} {k1 k2 : Nat} {b0 : Bool} {xs ys : Array Value} {x y a b : Value} {Q : Value → Shared → Prop} (D : ZipApart z TI TO i1 i2 l1 l2)
    (hz : IsZs s.heap z TI TO .none b0) (hTI : IsPair s.heap TI (.ref i1) (.ref i2)) (hTO : IsPair s.heap TO a b)
    (h1 : s.heap.IsTupleIter i1 l1 k1) (h2 : s.heap.IsTupleIter i2 l2 k2) (g1 : s.heap.IsTuple l1 xs) (g2 : s.heap.IsTuple l2 ys) (hx : xs[k1]? = some x) (hy : ys[k2]? = some y)
    (hQ : ∀ h', IsZs h' z TI TO (rawInt s.heap.objs.size) false → IsPair h' TO x y → h'.IsTupleIter i1 l1 (k1 + 1) → h'.IsTupleIter i2 l2 (k2 + 1) → IsPair h' s.heap.objs.size x y → h'.objs.size = s.heap.objs.size + 1 →
      (∀ c o, c ≠ z → c ≠ TO → c ≠ i1 → c ≠ i2 → s.heap.get? c = some o → h'.get? c = some o) → Q (.ref s.heap.objs.size) { s with heap := h' }) :
    wpAny (model prog w) A (Builtin.«zip.__next__» ⟨[.ref z], []⟩) (fun fin s' => ∃ v, fin = .done (.ret v) ∧ Q v s') E s := by
  show wpAny _ _ (field (.ref z) 2 >>= _) _ _ _
  refine wpAny_bind (wpAny_field hz rfl (x := .bool true) rfl ?_)
  show wpAny _ _ (field (.ref z) 3 >>= _) _ _ _
  refine wpAny_bind (wpAny_field hz rfl (x := .ref TI) rfl ?_)
  refine wpAny_bind (wpAny_seqItems hTI rfl ?_)
  show wpAny _ _ (Builtin.SmallTypes.ownedTupleIsFree (.ref z) >>= _) _ _ _
  refine wpAny_bind ?_
  unfold Builtin.SmallTypes.ownedTupleIsFree
  refine wpAny_bind (wpAny_field hz rfl (x := .none) rfl (wpAny_pure ?_))
  simp only [if_true]
  refine wpAny_bind (wpAny_rule ?_)
  refine wpAny_bind (wpAny_field hz rfl (x := .ref TO) rfl ?_)
  refine wpAny_bind (wpAny_setField_rec hz (by simp) fun h₁ hz₁ s1 => ?_)
  replace hz₁ : IsZs h₁ z TI TO .ellipsis b0 := hz₁
  refine wpAny_bind ?_
  simp only [List.zipIdx_cons, List.zipIdx_nil, List.forIn_cons, List.forIn_nil]
  refine wpAny_bind (wpAny_bind (wpAny_onRaise ?_))
  show wpAny _ _ (Builtin.SmallTypes.nextOrEnd (.ref i1)) _ _ _
  refine orEnd_item (h1.extBut s1.extBut D.i1z) (g1.extBut s1.extBut D.l1z) hx fun h₂ h1₂ s2 => ?_
  have hTO₂ : IsPair h₂ TO a b := s2.extBut _ _ D.TOi1 (s1.extBut _ _ D.TOz hTO)
  refine wpAny_bind (wpAny_seqItems hTO₂ rfl ?_)
  refine wpAny_bind (wpAny_updateSeq_pair hTO₂ fun h₃ hTO₃ s3 => ?_)
  replace hTO₃ : IsPair h₃ TO x b := hTO₃
  refine wpAny_bind (wpAny_letGo (wpAny_pure ?_))
  refine wpAny_bind (wpAny_bind (wpAny_onRaise ?_))
  show wpAny _ _ (Builtin.SmallTypes.nextOrEnd (.ref i2)) _ _ _
  refine orEnd_item (((h2.extBut s1.extBut D.i2z).extBut s2.extBut D.i12.symm).extBut s3.extBut D.TOi2.symm)
    (((g2.extBut s1.extBut D.l2z).extBut s2.extBut D.l2i1).extBut s3.extBut D.l2TO) hy fun h₄ h2₄ s4 => ?_
  have hTO₄ : IsPair h₄ TO x b := s4.extBut _ _ D.TOi2 hTO₃
  refine wpAny_bind (wpAny_seqItems hTO₄ rfl ?_)
  refine wpAny_bind (wpAny_updateSeq_pair hTO₄ fun h₅ hTO₅ s5 => ?_)
  replace hTO₅ : IsPair h₅ TO x y := hTO₅
  refine wpAny_bind (wpAny_letGo (wpAny_pure (wpAny_pure ?_)))
  refine wpAny_bind (wpAny_seqItems hTO₅ rfl ?_)
  refine wpAny_bind (wpAny_newTuple ?_)
  have sz5 : h₅.objs.size = s.heap.objs.size := by rw [s5.1, s4.1, s3.1, s2.1, s1.1]
  have hz₅ : IsZs h₅ z TI TO .ellipsis b0 := s5.extBut _ _ D.TOz.symm (s4.extBut _ _ D.i2z.symm (s3.extBut _ _ D.TOz.symm (s2.extBut _ _ D.i1z.symm hz₁)))
  have hk₅ : ∀ c o, c ≠ z → c ≠ TO → c ≠ i1 → c ≠ i2 → s.heap.get? c = some o → h₅.get? c = some o := fun c o c1 c2 c3 c4 e =>
    s5.extBut _ _ c2 (s4.extBut _ _ c4 (s3.extBut _ _ c2 (s2.extBut _ _ c3 (s1.extBut _ _ c1 e))))
  have h1₅ : h₅.IsTupleIter i1 l1 (k1 + 1) := ((h1₂.extBut s3.extBut D.TOi1.symm).extBut s4.extBut D.i12).extBut s5.extBut D.TOi1.symm
  have h2₅ : h₅.IsTupleIter i2 l2 (k2 + 1) := h2₄.extBut s5.extBut D.TOi2.symm
  have zlt : z < h₅.objs.size := Heap.lt_size hz₅
  show wpAny _ _ (Builtin.SmallTypes.ownedTupleHandOut (.ref z) (.ref h₅.objs.size) >>= _) _ _ _
  refine wpAny_bind ?_
  unfold Builtin.SmallTypes.ownedTupleHandOut
  have hz₆ : IsZs (h₅.push { cls := .type "tuple", data := .seq #[x, y] }) z TI TO .ellipsis b0 := Heap.get?_push_of_some _ hz₅
  refine wpAny_bind (wpAny_setField_rec hz₆ (by simp) fun h₇ hz₇ s7 => ?_)
  replace hz₇ : IsZs h₇ z TI TO (rawInt h₅.objs.size) b0 := hz₇
  refine wpAny_setField_rec hz₇ (by simp) fun h₈ hz₈ s8 => ?_
  replace hz₈ : IsZs h₈ z TI TO (rawInt h₅.objs.size) false := hz₈
  have up : ∀ c o, c ≠ z → h₅.get? c = some o → h₈.get? c = some o := fun c o c1 e => s8.extBut _ _ c1 (s7.extBut _ _ c1 (Heap.get?_push_of_some _ e))
  have hT₈ : IsPair h₈ h₅.objs.size x y := s8.extBut _ _ (Nat.ne_of_gt zlt) (s7.extBut _ _ (Nat.ne_of_gt zlt) (Heap.get?_push_size _ rfl))
  have sz8 : h₈.objs.size = h₅.objs.size + 1 := by rw [s8.1, s7.1, Heap.size_push]
  rw [sz5] at hz₈ hT₈ sz8
  refine wpAny_pure ⟨_, rfl, ?_⟩
  show Q (.ref h₅.objs.size) _
  rw [sz5]
  exact hQ h₈ hz₈ (up _ _ D.TOz hTO₅) (h1₅.at fun o e => up _ o D.i1z e) (h2₅.at fun o e => up _ o D.i2z e) hT₈ sz8 fun c o c1 c2 c3 c4 e => up c o c1 (hk₅ c o c1 c2 c3 c4 e)
end
end L2.DL
namespace L2.DL
open PySem
variable [Tbs]
section
variable {prog : Program} {w : World} {A : Around} {E : Value → Shared → Prop} {s : Shared}
theorem loadAlive_ok {a : Addr} {Q : Option Obj → Shared → Prop} (h : Q (s.heap.get? a) s) : wpAny (model prog w) A (loadIfAlive a) Q E s := by
  intro Γ p _
  unfold loadIfAlive
  rw [PySem.Sem.wp_loadIfAlive]
  exact h
theorem zs_free {z TI TO T1 : Addr} {b0 : Bool} {oT : Obj} (hz : IsZs s.heap z TI TO (rawInt T1) b0) (hT1 : s.heap.get? T1 = some oT) :
    wpAny (model prog w) A (Builtin.SmallTypes.ownedTupleIsFree (.ref z)) (fun b s' => b = false ∧ ∃ h', s' = { s with heap := h' } ∧ IsZs h' z TI TO (rawInt T1) true ∧ h'.objs.size = s.heap.objs.size ∧ ∀ c o, c ≠ z → s.heap.get? c = some o → h'.get? c = some o) E s := by
  unfold Builtin.SmallTypes.ownedTupleIsFree
  refine wpAny_bind (wpAny_field hz rfl (x := rawInt T1) rfl ?_)
  show wpAny _ _ (loadIfAlive (Int.toNat (T1 : Nat)) >>= _) _ _ _
  rw [Int.toNat_natCast]
  refine wpAny_bind (loadAlive_ok ?_)
  rw [hT1]
  simp only [Option.isNone_some, Bool.false_eq_true, if_false]
  refine wpAny_bind (wpAny_field hz rfl (x := .bool b0) rfl ?_)
  cases b0 with
  | true =>
    rw [if_neg (by decide)]
    exact wpAny_bind (wpAny_pure (wpAny_pure ⟨rfl, s.heap, rfl, hz, rfl, fun c o _ e => e⟩))
  | false =>
    rw [if_pos (by decide)]
    refine wpAny_bind (wpAny_setField_rec hz (by simp) fun h₁ hz₁ s1 => wpAny_pure ⟨rfl, h₁, rfl, hz₁, s1.1, fun c o c1 e => s1.extBut _ _ c1 e⟩)
/-- a later pair: the zip's first tuple lives on -/
theorem zs_later {z TI TO i1 i2 l1 l2 T1 : Addr} {k1 k2 : Nat} {b0 : Bool} {xs ys : Array Value} {x y : Value} {oT : Obj} {Q : Value → Shared → Prop} (D : ZipApart z TI TO i1 i2 l1 l2)
    (hz : IsZs s.heap z TI TO (rawInt T1) b0) (hT1 : s.heap.get? T1 = some oT) (hTI : IsPair s.heap TI (.ref i1) (.ref i2))
    (h1 : s.heap.IsTupleIter i1 l1 k1) (h2 : s.heap.IsTupleIter i2 l2 k2) (g1 : s.heap.IsTuple l1 xs) (g2 : s.heap.IsTuple l2 ys) (hx : xs[k1]? = some x) (hy : ys[k2]? = some y)
    (hQ : ∀ h', IsZs h' z TI TO (rawInt T1) true → h'.IsTupleIter i1 l1 (k1 + 1) → h'.IsTupleIter i2 l2 (k2 + 1) → IsPair h' s.heap.objs.size x y → h'.objs.size = s.heap.objs.size + 1 →
      (∀ c o, c ≠ z → c ≠ i1 → c ≠ i2 → s.heap.get? c = some o → h'.get? c = some o) → Q (.ref s.heap.objs.size) { s with heap := h' }) :
    wpAny (model prog w) A (Builtin.«zip.__next__» ⟨[.ref z], []⟩) (fun fin s' => ∃ v, fin = .done (.ret v) ∧ Q v s') E s := by
  show wpAny _ _ (field (.ref z) 2 >>= _) _ _ _
  refine wpAny_bind (wpAny_field hz rfl (x := .bool true) rfl ?_)
  show wpAny _ _ (field (.ref z) 3 >>= _) _ _ _
  refine wpAny_bind (wpAny_field hz rfl (x := .ref TI) rfl ?_)
  refine wpAny_bind (wpAny_seqItems hTI rfl ?_)
  show wpAny _ _ (Builtin.SmallTypes.ownedTupleIsFree (.ref z) >>= _) _ _ _
  refine wpAny_bind (wpAny_mono (zs_free hz hT1) (fun b s' hb => ?_) fun _ _ e => e)
  obtain ⟨rfl, h₁, rfl, hz₁, sz1, kp1⟩ := hb
  simp only [Bool.false_eq_true, if_false]
  refine wpAny_bind ?_
  rw [← Array.forIn_toList]
  simp only [List.forIn_cons, List.forIn_nil]
  refine wpAny_bind (wpAny_bind (wpAny_holding ?_))
  show wpAny _ _ (Builtin.SmallTypes.nextOrEnd (.ref i1)) _ _ _
  have h1' : h₁.IsTupleIter i1 l1 k1 := h1.at fun o e => kp1 _ o D.i1z e
  have h2' : h₁.IsTupleIter i2 l2 k2 := h2.at fun o e => kp1 _ o D.i2z e
  have g1' : h₁.IsTuple l1 xs := g1.at fun o e => kp1 _ o D.l1z e
  have g2' : h₁.IsTuple l2 ys := g2.at fun o e => kp1 _ o D.l2z e
  refine orEnd_item (s := { s with heap := h₁ }) h1' g1' hx fun h₂ h1₂ s2 => ?_
  refine wpAny_pure ?_
  refine wpAny_bind (wpAny_bind (wpAny_holding ?_))
  show wpAny _ _ (Builtin.SmallTypes.nextOrEnd (.ref i2)) _ _ _
  refine orEnd_item (s := { s with heap := h₂ }) (h2'.extBut s2.extBut D.i12.symm) (g2'.extBut s2.extBut D.l2i1) hy fun h₃ h2₃ s3 => ?_
  refine wpAny_pure (wpAny_pure ?_)
  refine wpAny_bind (wpAny_newTuple (items := [x, y]) (hsz := by show (2 : Nat) ≤ sizeLine; decide) ?_)
  have sz3 : h₃.objs.size = s.heap.objs.size := by rw [s3.1, s2.1, sz1]
  have kp : ∀ c o, c ≠ z → c ≠ i1 → c ≠ i2 → s.heap.get? c = some o → (h₃.push { cls := .type "tuple", data := .seq #[x, y] }).get? c = some o := fun c o c1 c2 c3 e =>
    Heap.get?_push_of_some _ (s3.extBut _ _ c3 (s2.extBut _ _ c2 (kp1 _ _ c1 e)))
  refine wpAny_pure ⟨_, rfl, ?_⟩
  show Q (.ref h₃.objs.size) _
  rw [sz3]
  have hp : IsPair (h₃.push { cls := .type "tuple", data := .seq #[x, y] }) h₃.objs.size x y := Heap.get?_push_size _ rfl
  rw [sz3] at hp
  exact hQ _ (Heap.get?_push_of_some _ (s3.extBut _ _ D.i2z.symm (s2.extBut _ _ D.i1z.symm hz₁))) ((h1₂.extBut s3.extBut D.i12).at fun o e => Heap.get?_push_of_some _ e) (h2₃.at fun o e => Heap.get?_push_of_some _ e) hp (by rw [Heap.size_push, sz3]) kp
end
end L2.DL
namespace L2.DL
open PySem
variable [Tbs]
section
variable {prog : Program} {w : World} {A : Around} {E : Value → Shared → Prop} {s : Shared}
theorem stop_ok {Q : Fin → Shared → Prop} (hh : A.handled = none) (hE : ∀ h' e, (∀ b o, s.heap.get? b = some o → h'.get? b = some o) → (∃ o, h'.get? e = some o ∧ o.cls = .type "StopIteration") → E (.ref e) { s with heap := h' }) :
    wpAny (model prog w) A (Builtin.SmallTypes.stopIteration : Sem Fin) Q E s := by
  show wpAny _ _ (newExc (.type "StopIteration") [] >>= _) _ _ _
  refine wpAny_bind ?_
  simp only [newExc, newTuple]
  refine wpAny_bind (wpAny_newObj_type ?_ (by size_fits))
  refine wpAny_bind (m := firstArgMember _ _) (wpAny_of_eq (a := Value.none) (by first | rfl | (simp only [firstArgMember]; rfl)) ?_)
  refine wpAny_newObj_type ?_ (by size_fits)
  simp only [raiseNew]
  refine wpAny_bind (wpAny_handled ?_)
  rw [hh]
  first
    | refine wpAny_throw ?_
    | refine wpAny_bind (wpAny_pure (wpAny_throw ?_))
  exact hE _ _ (fun b o hb => Heap.get?_push_of_some _ (Heap.get?_push_of_some _ hb)) ⟨_, Heap.get?_push_size _ rfl, rfl⟩
/-- both ended, the zip's own tuple free -/
theorem zs_end0 {z TI TO i1 i2 l1 l2 : Addr} {k1 k2 : Nat} {b0 : Bool} {xs ys : Array Value} {Q : Fin → Shared → Prop} (hh : A.handled = none) (D : ZipApart z TI TO i1 i2 l1 l2)
    (hz : IsZs s.heap z TI TO .none b0) (hTI : IsPair s.heap TI (.ref i1) (.ref i2))
    (h1 : s.heap.IsTupleIter i1 l1 k1) (h2 : s.heap.IsTupleIter i2 l2 k2) (g1 : s.heap.IsTuple l1 xs) (g2 : s.heap.IsTuple l2 ys) (hx : xs[k1]? = none) (hy : ys[k2]? = none)
    (hE : ∀ h' e, (∀ c o, c ≠ z → c ≠ i1 → c ≠ i2 → s.heap.get? c = some o → h'.get? c = some o) → (∃ o, h'.get? e = some o ∧ o.cls = .type "StopIteration") → E (.ref e) { s with heap := h' }) :
    wpAny (model prog w) A (Builtin.«zip.__next__» ⟨[.ref z], []⟩) Q E s := by
  show wpAny _ _ (field (.ref z) 2 >>= _) _ _ _
  refine wpAny_bind (wpAny_field hz rfl (x := .bool true) rfl ?_)
  show wpAny _ _ (field (.ref z) 3 >>= _) _ _ _
  refine wpAny_bind (wpAny_field hz rfl (x := .ref TI) rfl ?_)
  refine wpAny_bind (wpAny_seqItems hTI rfl ?_)
  show wpAny _ _ (Builtin.SmallTypes.ownedTupleIsFree (.ref z) >>= _) _ _ _
  refine wpAny_bind ?_
  unfold Builtin.SmallTypes.ownedTupleIsFree
  refine wpAny_bind (wpAny_field hz rfl (x := .none) rfl (wpAny_pure ?_))
  simp only [if_true]
  refine wpAny_bind (wpAny_rule ?_)
  refine wpAny_bind (wpAny_field hz rfl (x := .ref TO) rfl ?_)
  refine wpAny_bind (wpAny_setField_rec hz (by simp) fun h₁ hz₁ s1 => ?_)
  replace hz₁ : IsZs h₁ z TI TO .ellipsis b0 := hz₁
  refine wpAny_bind ?_
  simp only [List.zipIdx_cons, List.zipIdx_nil, List.forIn_cons, List.forIn_nil]
  refine wpAny_bind (wpAny_bind (wpAny_onRaise ?_))
  show wpAny _ _ (Builtin.SmallTypes.nextOrEnd (.ref i1)) _ _ _
  refine orEnd_end hh (h1.extBut s1.extBut D.i1z) (g1.extBut s1.extBut D.l1z) hx fun h₂ s2 => ?_
  have hz₂ : IsZs h₂ z TI TO .ellipsis b0 := s2 _ _ D.i1z.symm hz₁
  refine wpAny_bind (wpAny_setField_rec hz₂ (by simp) fun h₃ hz₃ s3 => ?_)
  refine wpAny_bind ?_
  show wpAny _ _ (forIn [(Value.ref i2, 1)] PUnit.unit _ >>= _) _ _ _
  simp only [List.forIn_cons, List.forIn_nil]
  refine wpAny_bind (wpAny_bind ?_)
  refine wpAny_bind (orEnd_end hh (((h2.extBut s1.extBut D.i2z).extBut s2 D.i12.symm).extBut s3.extBut D.i2z) (((g2.extBut s1.extBut D.l2z).extBut s2 D.l2i1).extBut s3.extBut D.l2z) hy fun h₄ s4 => ?_)
  rw [if_neg (by decide)]
  refine wpAny_pure (wpAny_pure (wpAny_bind (wpAny_rule ?_)))
  refine stop_ok hh fun h₅ e kp he => hE h₅ e (fun c o c1 c2 c3 q => kp _ _ (s4 _ _ c3 (s3.extBut _ _ c1 (s2 _ _ c2 (s1.extBut _ _ c1 q))))) he
/-- both ended, the zip's first tuple alive -/
theorem zs_endL {z TI TO i1 i2 l1 l2 T1 : Addr} {k1 k2 : Nat} {b0 : Bool} {xs ys : Array Value} {oT : Obj} {Q : Fin → Shared → Prop} (hh : A.handled = none) (D : ZipApart z TI TO i1 i2 l1 l2)
    (hz : IsZs s.heap z TI TO (rawInt T1) b0) (hT1 : s.heap.get? T1 = some oT) (hTI : IsPair s.heap TI (.ref i1) (.ref i2))
    (h1 : s.heap.IsTupleIter i1 l1 k1) (h2 : s.heap.IsTupleIter i2 l2 k2) (g1 : s.heap.IsTuple l1 xs) (g2 : s.heap.IsTuple l2 ys) (hx : xs[k1]? = none) (hy : ys[k2]? = none)
    (hE : ∀ h' e, (∀ c o, c ≠ z → c ≠ i1 → c ≠ i2 → s.heap.get? c = some o → h'.get? c = some o) → (∃ o, h'.get? e = some o ∧ o.cls = .type "StopIteration") → E (.ref e) { s with heap := h' }) :
    wpAny (model prog w) A (Builtin.«zip.__next__» ⟨[.ref z], []⟩) Q E s := by
  show wpAny _ _ (field (.ref z) 2 >>= _) _ _ _
  refine wpAny_bind (wpAny_field hz rfl (x := .bool true) rfl ?_)
  show wpAny _ _ (field (.ref z) 3 >>= _) _ _ _
  refine wpAny_bind (wpAny_field hz rfl (x := .ref TI) rfl ?_)
  refine wpAny_bind (wpAny_seqItems hTI rfl ?_)
  show wpAny _ _ (Builtin.SmallTypes.ownedTupleIsFree (.ref z) >>= _) _ _ _
  refine wpAny_bind (wpAny_mono (zs_free hz hT1) (fun b s' hb => ?_) fun _ _ e => e)
  obtain ⟨rfl, h₁, rfl, hz₁, sz1, kp1⟩ := hb
  simp only [Bool.false_eq_true, if_false]
  refine wpAny_bind ?_
  rw [← Array.forIn_toList]
  simp only [List.forIn_cons, List.forIn_nil]
  refine wpAny_bind (wpAny_bind (wpAny_holding ?_))
  show wpAny _ _ (Builtin.SmallTypes.nextOrEnd (.ref i1)) _ _ _
  have h1' : h₁.IsTupleIter i1 l1 k1 := h1.at fun o e => kp1 _ o D.i1z e
  have h2' : h₁.IsTupleIter i2 l2 k2 := h2.at fun o e => kp1 _ o D.i2z e
  have g1' : h₁.IsTuple l1 xs := g1.at fun o e => kp1 _ o D.l1z e
  have g2' : h₁.IsTuple l2 ys := g2.at fun o e => kp1 _ o D.l2z e
  refine orEnd_end (s := { s with heap := h₁ }) hh h1' g1' hx fun h₂ s2 => ?_
  refine wpAny_bind ?_
  show wpAny _ _ (forIn [(Value.ref i2, 1)] PUnit.unit _ >>= _) _ _ _
  simp only [List.forIn_cons, List.forIn_nil]
  refine wpAny_bind (wpAny_bind ?_)
  refine wpAny_bind (orEnd_end hh (h2'.extBut s2 D.i12.symm) (g2'.extBut s2 D.l2i1) hy fun h₄ s4 => ?_)
  rw [if_neg (by decide)]
  refine wpAny_pure (wpAny_pure (wpAny_bind (wpAny_rule ?_)))
  refine stop_ok hh fun h₅ e kp he => hE h₅ e (fun c o c1 c2 c3 q => kp _ _ (s4 _ _ c3 (s2 _ _ c2 (kp1 _ _ c1 q)))) he
end
end L2.DL
/-! DLr: list(zip(a, b, strict=True)) of two tuples -/
/-! zip's steps told alike; the call of it -/
namespace L2.DL
open PySem
variable [Tbs]
/-- the zip at its i-th turn -/
structure ZsSt (h : Heap) (S z TI TO i1 i2 l1 l2 : Addr) (xs ys : Array Value) (i : Nat) : Prop where
  zip : ∃ f0 b, IsZs h z TI TO f0 b ∧ (f0 = .none ∨ ∃ T1 oT, f0 = rawInt (T1 : Nat) ∧ h.get? T1 = some oT ∧ T1 ≠ z ∧ T1 ≠ i1 ∧ T1 ≠ i2 ∧ T1 ≠ S)
  ti : IsPair h TI (.ref i1) (.ref i2)
  to : ∃ a b, IsPair h TO a b
  it1 : h.IsTupleIter i1 l1 i
  it2 : h.IsTupleIter i2 l2 i
  t1 : h.IsTuple l1 xs
  t2 : h.IsTuple l2 ys
theorem ZsSt.keeps {h h' : Heap} {S z TI TO i1 i2 l1 l2 : Addr} {xs ys : Array Value} {i : Nat} (st : ZsSt h S z TI TO i1 i2 l1 l2 xs ys i) (k : ∀ c o, c ≠ S → h.get? c = some o → h'.get? c = some o)
    (n1 : z ≠ S) (n2 : TI ≠ S) (n3 : TO ≠ S) (n4 : i1 ≠ S) (n5 : i2 ≠ S) (n6 : l1 ≠ S) (n7 : l2 ≠ S) : ZsSt h' S z TI TO i1 i2 l1 l2 xs ys i := by
  obtain ⟨⟨f0, b, e1, e2⟩, e3, ⟨x, y, e4⟩, e5, e6, e7, e8⟩ := st
  refine ⟨⟨f0, b, k _ _ n1 e1, ?_⟩, k _ _ n2 e3, ⟨x, y, k _ _ n3 e4⟩, e5.at fun o e => k _ o n4 e, e6.at fun o e => k _ o n5 e, e7.at fun o e => k _ o n6 e, e8.at fun o e => k _ o n7 e⟩
  rcases e2 with e2 | ⟨T1, oT, q1, q2, q3⟩
  · exact .inl e2
  · exact .inr ⟨T1, oT, q1, k _ _ q3.2.2.2 q2, q3⟩
section
variable {prog : Program} {w : World} {A : Around} {E : Value → Shared → Prop} {s : Shared}
theorem zs_step {S z TI TO i1 i2 l1 l2 : Addr} {i : Nat} {xs ys : Array Value} {x y : Value} {Q : Option Value → Shared → Prop} (D : ZipApart z TI TO i1 i2 l1 l2)
    (st : ZsSt s.heap S z TI TO i1 i2 l1 l2 xs ys i) (hS : S < s.heap.objs.size) (hx : xs[i]? = some x) (hy : ys[i]? = some y)
    (hQ : ∀ h', ZsSt h' S z TI TO i1 i2 l1 l2 xs ys (i + 1) → IsPair h' s.heap.objs.size x y →
      (∀ c o, c ≠ z → c ≠ TO → c ≠ i1 → c ≠ i2 → s.heap.get? c = some o → h'.get? c = some o) → Q (some (.ref s.heap.objs.size)) { s with heap := h' }) :
    wpAny (model prog w) A (pyNext (.ref z)) Q E s := by
  obtain ⟨⟨f0, b, hz, hf⟩, hTI, ⟨p, q, hTO⟩, h1, h2, g1, g2⟩ := st
  have hT : s.TypeIs (.ref z) "zip" := ⟨_, hz, rfl⟩
  unfold pyNext
  refine wpAny_bind (wpAny_attempt (wpAny_callSpecial?_slot (name := Str.ofString "__next__") hT F.slot_zip_next
    (wpAny_call_entry F.slot_zip_next hT F.entry_zip_next ?_ (F.args_zip_next_1 _))))
  have lt : ∀ {c o}, s.heap.get? c = some o → s.heap.objs.size ≠ c := fun e => Nat.ne_of_gt (Heap.lt_size e)
  have n1 : s.heap.objs.size ≠ i1 := by obtain ⟨_, e, _⟩ := h1; exact lt e
  have n2 : s.heap.objs.size ≠ i2 := by obtain ⟨_, e, _⟩ := h2; exact lt e
  rcases hf with rfl | ⟨T1, oT, rfl, hT1, m1, m2, m3, m4⟩
  · refine zs_first D hz hTI hTO h1 h2 g1 g2 hx hy fun h' a1 a2 a3 a4 a5 a6 a7 => wpAny_pure (hQ h' ?_ a5 a7)
    exact ⟨⟨_, _, a1, .inr ⟨_, _, rfl, a5, lt hz, n1, n2, Nat.ne_of_gt hS⟩⟩, a7 _ _ D.TIz D.TITO D.TIi1 D.TIi2 hTI, ⟨_, _, a2⟩, a3, a4,
        g1.at fun o e => a7 _ o D.l1z D.l1TO D.l1i1 D.l1i2 e, g2.at fun o e => a7 _ o D.l2z D.l2TO D.l2i1 D.l2i2 e⟩
  · refine zs_later D hz hT1 hTI h1 h2 g1 g2 hx hy fun h' a1 a3 a4 a5 a6 a7 => wpAny_pure (hQ h' ?_ a5 fun c o c1 _ c3 c4 e => a7 c o c1 c3 c4 e)
    exact ⟨⟨_, _, a1, .inr ⟨T1, oT, rfl, a7 _ _ m1 m2 m3 hT1, m1, m2, m3, m4⟩⟩, a7 _ _ D.TIz D.TIi1 D.TIi2 hTI, ⟨_, _, a7 _ _ D.TOz D.TOi1 D.TOi2 hTO⟩, a3, a4,
        g1.at fun o e => a7 _ o D.l1z D.l1i1 D.l1i2 e, g2.at fun o e => a7 _ o D.l2z D.l2i1 D.l2i2 e⟩
theorem zs_stop {S z TI TO i1 i2 l1 l2 : Addr} {i : Nat} {xs ys : Array Value} {Q : Option Value → Shared → Prop} (hh : A.handled = none) (D : ZipApart z TI TO i1 i2 l1 l2)
    (st : ZsSt s.heap S z TI TO i1 i2 l1 l2 xs ys i) (hx : xs[i]? = none) (hy : ys[i]? = none)
    (hQ : ∀ h', (∀ c o, c ≠ z → c ≠ TO → c ≠ i1 → c ≠ i2 → s.heap.get? c = some o → h'.get? c = some o) → Q none { s with heap := h' }) :
    wpAny (model prog w) A (pyNext (.ref z)) Q E s := by
  obtain ⟨⟨f0, b, hz, hf⟩, hTI, ⟨p, q, hTO⟩, h1, h2, g1, g2⟩ := st
  have hT : s.TypeIs (.ref z) "zip" := ⟨_, hz, rfl⟩
  unfold pyNext
  refine wpAny_bind (wpAny_attempt (wpAny_callSpecial?_slot (name := Str.ofString "__next__") hT F.slot_zip_next
    (wpAny_call_entry F.slot_zip_next hT F.entry_zip_next ?_ (F.args_zip_next_1 _))))
  rcases hf with rfl | ⟨T1, oT, rfl, hT1, m1, m2, m3, m4⟩
  · refine zs_end0 hh D hz hTI h1 h2 g1 g2 hx hy fun h' e k he => ?_
    obtain ⟨o, ho, hc⟩ := he
    refine wpAny_bind (wpAny_isInstance (T := "StopIteration") (b := true) ⟨o, ho, hc⟩ isSubtype_stop ?_)
    exact wpAny_pure (hQ _ fun c o c1 _ c3 c4 e => k c o c1 c3 c4 e)
  · refine zs_endL hh D hz hT1 hTI h1 h2 g1 g2 hx hy fun h' e k he => ?_
    obtain ⟨o, ho, hc⟩ := he
    refine wpAny_bind (wpAny_isInstance (T := "StopIteration") (b := true) ⟨o, ho, hc⟩ isSubtype_stop ?_)
    exact wpAny_pure (hQ _ fun c o c1 _ c3 c4 e => k c o c1 c3 c4 e)
theorem call_zs {l1 l2 : Addr} {xs ys : Array Value} {Q : Value → Shared → Prop} (g1 : s.heap.IsTuple l1 xs) (g2 : s.heap.IsTuple l2 ys)
    (h : ∀ h', IsZs h' (s.heap.objs.size + 4) (s.heap.objs.size + 2) (s.heap.objs.size + 3) .none false → IsPair h' (s.heap.objs.size + 2) (.ref s.heap.objs.size) (.ref (s.heap.objs.size + 1)) →
      IsPair h' (s.heap.objs.size + 3) .none .none → h'.IsTupleIter s.heap.objs.size l1 0 → h'.IsTupleIter (s.heap.objs.size + 1) l2 0 → h'.objs.size = s.heap.objs.size + 5 →
      (∀ c o, s.heap.get? c = some o → h'.get? c = some o) → Q (.ref (s.heap.objs.size + 4)) { s with heap := h' }) :
    wpAny (model prog w) A (call (.type "zip") [.ref l1, .ref l2] zsK) Q E s := by
  refine typeKw_meets (Q₁ := fun obj s₁ => s₁.TypeIs obj "zip" ∧ Q obj s₁) F.called_zip (zs_type _ _) (zs_new _ _) F.entry_zip_new F.entry_object_init (zs_meets l1 l2 xs ys) ⟨g1, g2, ?_⟩ fun obj s₁ hq =>
    ⟨hq.1, zs_init _ _ _, _, objInit_kw F.called_zip.init.lookup F.called_zip.made (by decide), hq.1, rfl, hq.2⟩
  have z1 : (RZ.zipTH1 s.heap l1).objs.size = s.heap.objs.size + 1 := Heap.size_push ..
  have z2 : (RZ.zipTH2 s.heap l1 l2).objs.size = s.heap.objs.size + 2 := by rw [Heap.size_push, z1]
  have z3 : (RZ.zipTH3 s.heap l1 l2).objs.size = s.heap.objs.size + 3 := by rw [Heap.size_push, z2]
  have z4 : (RZ.zipTH4 s.heap l1 l2).objs.size = s.heap.objs.size + 4 := by rw [Heap.size_push, z3]
  have z5 : (zsH5 s.heap l1 l2).objs.size = s.heap.objs.size + 5 := by rw [Heap.size_push, z4]
  have q5 : (zsH5 s.heap l1 l2).get? (RZ.zipTH4 s.heap l1 l2).objs.size = some _ := Heap.get?_push_size _ rfl
  have q4 : (zsH5 s.heap l1 l2).get? (RZ.zipTH3 s.heap l1 l2).objs.size = some _ := Heap.get?_push_of_some _ (Heap.get?_push_size _ rfl)
  have q3 : (zsH5 s.heap l1 l2).get? (RZ.zipTH2 s.heap l1 l2).objs.size = some _ := Heap.get?_push_of_some _ (Heap.get?_push_of_some _ (Heap.get?_push_size _ rfl))
  have q2 : (zsH5 s.heap l1 l2).get? (RZ.zipTH1 s.heap l1).objs.size = some _ := Heap.get?_push_of_some _ (Heap.get?_push_of_some _ (Heap.get?_push_of_some _ (Heap.get?_push_size _ rfl)))
  have q1 : (zsH5 s.heap l1 l2).get? s.heap.objs.size = some _ := Heap.get?_push_of_some _ (Heap.get?_push_of_some _ (Heap.get?_push_of_some _ (Heap.get?_push_of_some _ (Heap.get?_push_size _ rfl))))
  show _ ∧ _
  rw [z2, z3, z4] at q5
  rw [z1, z2] at q3
  rw [z3] at q4
  rw [z1] at q2
  rw [z4]
  exact ⟨⟨_, q5, rfl⟩, h _ q5 q3 q4 ⟨_, q1, rfl, rfl⟩ ⟨_, q2, rfl, rfl⟩ z5 fun c o x =>
    Heap.get?_push_of_some _ (Heap.get?_push_of_some _ (Heap.get?_push_of_some _ (Heap.get?_push_of_some _ (Heap.get?_push_of_some _ x))))⟩
end
end L2.DL
/-! list(zip(a, b, strict=True)) of two tuples -/
namespace L2.DL
open PySem PySem.Spec PyProof.Rows
variable [Tbs]
inductive ZipG (H : Hp) : List V → List V → List V → Hp → Prop
  | nil : ZipG H [] [] [] H
  | snoc {xs ys outs : List V} {G : Hp} {x y : V} {T : Addr} : ZipG H xs ys outs G → G T = none → ZipG H (xs ++ [x]) (ys ++ [y]) (outs ++ [.ref T]) (upd G T (.tup [x, y]))
theorem upd3 {G : Hp} {S T : Addr} {l l' t : HO} (h : T ≠ S) : upd (upd (upd G S l) T t) S l' = upd (upd G T t) S l' := by
  funext b
  by_cases e : b = S
  · rw [e, upd_same, upd_same]
  · rw [upd_ne e, upd_ne e]
    by_cases e2 : b = T
    · rw [e2, upd_same, upd_same]
    · rw [upd_ne e2, upd_ne e2, upd_ne e]
theorem drainZ {X : Cx} {pins : List (Addr × Obj)} {σ : St} {A : Around} {z TI TO i1 i2 l1 l2 S : Addr} {H0 : Hp} {xs ys : List V} {us1 us2 : List Value} {R : Result → Shared → Prop} {res : Value} (hh : A.handled = none) (D : ZipApart z TI TO i1 i2 l1 l2)
    (r1 : Vals xs us1) (r2 : Vals ys us2) (hl : xs.length = ys.length) (hz : xs.length ≤ sizeLine) (n1 : z ≠ S) (n2 : TI ≠ S) (n3 : TO ≠ S) (n4 : i1 ≠ S) (n5 : i2 ≠ S) (n6 : l1 ≠ S) (n7 : l2 ≠ S)
    (hend : ∀ G outs s', ZipG H0 xs ys outs G → G S = none → Inv X pins σ (upd G S (.lst outs)) s' → R (.ok (.ret res)) s') :
    ∀ m i G outs s, i + m = xs.length → ZipG H0 (xs.take i) (ys.take i) outs G → G S = none → Inv X pins σ (upd G S (.lst outs)) s → ZsSt s.heap S z TI TO i1 i2 l1 l2 us1.toArray us2.toArray i →
      (∀ c ∈ [z, TI, TO, i1, i2], FpOk X pins (upd G S (.lst outs)) c) → outs.length = i → codeAny (model X.prog X.w) A (.builtin "list.extend.loop" ⟨[.ref S, .ref z, res], []⟩) R s := by
  have e1 := r1.length
  have e2 := r2.length
  intro m
  induction m with
  | zero =>
    intro i G outs s him hG hS I st hf ho
    refine codeAny_builtin F.entry_extend_loop ?_
    rw [Around.under_plainId F.plain_extend_loop _]
    show wpAny _ A.in1 (pyNext (.ref z) >>= _) _ _ s
    refine wpAny_bind (zs_stop (A := A.in1) hh D st (by simp; omega) (by simp; omega) fun h' k => wpAny_pure (hend G outs _ ?_ hS ?_))
    · rw [List.take_of_length_le (by omega), List.take_of_length_le (by omega)] at hG
      exact hG
    · exact I.turnedL (t' := s.toks) (ch := [z, TI, TO, i1, i2]) (fun b o hb e => k b o (fun q => hb (by simp [q])) (fun q => hb (by simp [q])) (fun q => hb (by simp [q])) (fun q => hb (by simp [q])) e) hf
  | succ m ih =>
    intro i G outs s him hG hS I st hf ho
    have hi1 : i < us1.length := by omega
    have hi2 : i < us2.length := by omega
    have hix : i < xs.length := by omega
    have hiy : i < ys.length := by omega
    obtain ⟨u1, hu1, ru1⟩ := r1.get (List.getElem?_eq_getElem hix)
    obtain ⟨u2, hu2, ru2⟩ := r2.get (List.getElem?_eq_getElem hiy)
    obtain ⟨zl, its, cap, rv, hlen, eS⟩ := I.lstM upd_same
    have hSlt : S < s.heap.objs.size := Heap.lt_size eS
    have ltz : ∀ c ∈ [z, TI, TO, i1, i2], c < s.heap.objs.size := by
      obtain ⟨⟨f0, b, q1, _⟩, q2, ⟨_, _, q3⟩, ⟨o4, q4, _⟩, ⟨o5, q5, _⟩, _, _⟩ := st
      intro c hc
      have hc' : c = z ∨ c = TI ∨ c = TO ∨ c = i1 ∨ c = i2 := by simpa using hc
      rcases hc' with rfl | rfl | rfl | rfl | rfl
      · exact Heap.lt_size q1
      · exact Heap.lt_size q2
      · exact Heap.lt_size q3
      · exact Heap.lt_size q4
      · exact Heap.lt_size q5
    refine codeAny_builtin F.entry_extend_loop ?_
    rw [Around.under_plainId F.plain_extend_loop _]
    show wpAny _ A.in1 (pyNext (.ref z) >>= _) _ _ s
    refine wpAny_bind (zs_step (A := A.in1) D st hSlt (x := u1) (y := u2) (by simpa using hu1) (by simpa using hu2) fun h' st' hp k => ?_)
    show wpAny _ A.in1 (updateSeq S (·.push (Value.ref s.heap.objs.size)) >>= _) _ _ _
    refine wpAny_bind ?_
    have nTS : s.heap.objs.size ≠ S := Nat.ne_of_gt hSlt
    have kk : ∀ b o, b ∉ [z, TI, TO, i1, i2] → s.heap.get? b = some o → h'.get? b = some o := fun b o hb e => k b o (fun q => hb (by simp [q])) (fun q => hb (by simp [q])) (fun q => hb (by simp [q])) (fun q => hb (by simp [q])) e
    have new : ObjOk X.prog X.w (upd (upd G S (.lst outs)) s.heap.objs.size (.tup [xs[i], ys[i]])) h' s.heap.objs.size (.tup [xs[i], ys[i]]) :=
      ⟨by show 2 ≤ sizeLine; decide, [u1, u2], .cons ru1 (.cons ru2 .nil), ⟨_, hp, rfl, _, rfl⟩⟩
    have I1 : Inv X pins σ (upd (upd G S (.lst outs)) s.heap.objs.size (.tup [xs[i], ys[i]])) { s with heap := h' } := I.turnedNew (t' := s.toks) kk hf (Nat.le_refl _) new
    have hH : (upd (upd G S (.lst outs)) s.heap.objs.size (.tup [xs[i], ys[i]])) S = some (.lst outs) := by rw [upd_ne nTS.symm, upd_same]
    obtain ⟨zl', its', cap', rv', hlen', eS'⟩ := I1.lstM hH
    have hsz : its'.length < sizeLine := by omega
    refine wpAny_updateSeq eS' rfl (wpAny_pure ⟨plainId_quiet F.plain_extend_loop _, ?_⟩) (by rw [List.size_toArray]; omega) (by show (its'.toArray.push _).size ≤ sizeLine + 1; rw [Array.size_push, List.size_toArray]; omega)
    have I2 := I1.lset (t' := s.toks) (its' := its' ++ [.ref s.heap.objs.size]) (ys := outs ++ [.ref s.heap.objs.size]) (f := (·.push (Value.ref s.heap.objs.size))) hH eS' (by simp) (rv'.append (.cons (show RelV (V.ref s.heap.objs.size) (Value.ref s.heap.objs.size) from rfl) .nil)) (by rw [List.length_append, List.length_singleton]; omega)
    rw [upd3 nTS] at I2
    have hGT : G s.heap.objs.size = none := by
      have q : (upd G S (.lst outs)) s.heap.objs.size = none := I.hok.fresh (Nat.le_refl _)
      rw [upd_ne nTS] at q
      exact q
    refine ih (i + 1) (upd G s.heap.objs.size (.tup [xs[i], ys[i]])) (outs ++ [.ref s.heap.objs.size]) _ (by omega) ?_ ?_ I2 ?_ ?_ ?_
    · have a1 : xs.take (i + 1) = xs.take i ++ [xs[i]] := by rw [List.take_succ_eq_append_getElem hix]
      have a2 : ys.take (i + 1) = ys.take i ++ [ys[i]] := by rw [List.take_succ_eq_append_getElem hiy]
      rw [a1, a2]
      exact .snoc hG hGT
    · rw [upd_ne nTS.symm]; exact hS
    · exact st'.keeps (fun c o hc e => (Heap.get?_update_other _ _ (Ne.symm hc)).trans e) n1 n2 n3 n4 n5 n6 n7
    · intro c hc
      have f := hf c hc
      have hcS : c ≠ S := by
        have hc' : c = z ∨ c = TI ∨ c = TO ∨ c = i1 ∨ c = i2 := by simpa using hc
        rcases hc' with rfl | rfl | rfl | rfl | rfl <;> assumption
      refine ⟨?_, f.2⟩
      rw [upd_ne hcS, upd_ne (Nat.ne_of_lt (ltz c hc))]
      have q := f.1
      rw [upd_ne hcS] at q
      exact q
    · rw [List.length_append, List.length_singleton, ho]
end L2.DL
namespace L2.DL
open PySem PySem.Spec PyProof.Rows
variable [Tbs]
theorem zip_len0 : typeLookup (.type "zip") "__len__" = pure none := by rw [typeLookup_type, builtinLookup_eq_fast]; kernel_rfl
theorem zip_hint0 : typeLookup (.type "zip") "__length_hint__" = pure none := by rw [typeLookup_type, builtinLookup_eq_fast]; kernel_rfl
theorem zs_iter {prog : Program} {w : World} {A : Around} {E : Value → Shared → Prop} {s : Shared} {z TI TO : Addr} {f0 : Value} {b : Bool} {Q : Value → Shared → Prop} (hz : IsZs s.heap z TI TO f0 b) (h : Q (.ref z) s) : wpAny (model prog w) A (pyIter (.ref z)) Q E s := by
  have hT : s.TypeIs (.ref z) "zip" := ⟨_, hz, rfl⟩
  refine wpAny_pyIter_slot hT F.slot_zip_iter (wpAny_call_entry F.slot_zip_iter hT F.entry_zip_iter ?_ (F.args_zip_iter_1 _))
  show wpAny _ _ (ret (.ref z)) _ _ s
  exact wpAny_pure ⟨_, rfl, "zip", _, hT, F.slot_zip_next.lookup, h⟩
/-- list(z) of a zip that has not begun -/
theorem list_zs {X : Cx} {pins : List (Addr × Obj)} {σ : St} {A : Around} {z TI TO i1 i2 l1 l2 : Addr} {H : Hp} {s : Shared} {xs ys : List V} {us1 us2 : List Value} {Q : Value → Shared → Prop} {E : Value → Shared → Prop} (hh : A.handled = none) (D : ZipApart z TI TO i1 i2 l1 l2)
    (r1 : Vals xs us1) (r2 : Vals ys us2) (hl : xs.length = ys.length) (hz : xs.length ≤ sizeLine) (I : Inv X pins σ H s) (hzz : IsZs s.heap z TI TO .none false) (hTI : IsPair s.heap TI (.ref i1) (.ref i2)) (hTO : IsPair s.heap TO .none .none)
    (t1 : s.heap.IsTupleIter i1 l1 0) (t2 : s.heap.IsTupleIter i2 l2 0) (g1 : s.heap.IsTuple l1 us1.toArray) (g2 : s.heap.IsTuple l2 us2.toArray) (hf : ∀ c ∈ [z, TI, TO, i1, i2], FpOk X pins H c)
    (hend : ∀ G outs S s', H S = none → ZipG H xs ys outs G → G S = none → Inv X pins σ (upd G S (.lst outs)) s' → Q (.ref S) s') :
    wpAny (model X.prog X.w) A (call (.type "list") [.ref z]) Q E s := by
  have lt : ∀ {c o}, s.heap.get? c = some o → c ≠ s.heap.objs.size := fun e => Nat.ne_of_lt (Heap.lt_size e)
  have n4 : i1 ≠ s.heap.objs.size := by obtain ⟨_, e, _⟩ := t1; exact lt e
  have n5 : i2 ≠ s.heap.objs.size := by obtain ⟨_, e, _⟩ := t2; exact lt e
  have n6 : l1 ≠ s.heap.objs.size := by obtain ⟨_, e, _⟩ := id g1; exact lt e
  have n7 : l2 ≠ s.heap.objs.size := by obtain ⟨_, e, _⟩ := id g2; exact lt e
  refine callType_codes (Q₁ := fun obj s₁ => obj = .ref s.heap.objs.size ∧ s₁ = { s with heap := s.heap.push { cls := .type "list", data := .seq #[] } }) F.called_list (F.typeCall_list_1 _) F.entry_list_init
    (code_list_new _ ⟨rfl, rfl⟩) fun obj s₁ h₁ => ?_
  obtain ⟨rfl, rfl⟩ := h₁
  have hS : (s.heap.push { cls := .type "list", data := .seq #[] }).get? s.heap.objs.size = some { cls := .type "list", data := .seq #[] } := Heap.get?_push_size _ rfl
  refine ⟨⟨_, hS, rfl⟩, F.args_list_init_2 _ _, ?_⟩
  show wpAny _ A.in1.in1 (do let old ← Builtin.List.listItems (.ref s.heap.objs.size); Builtin.List.listUpdate (.ref s.heap.objs.size) (fun _ => #[]); letGo old.toList.reverse; Builtin.List.listExtendWith (.ref s.heap.objs.size) (.ref z) .none) _ _ _
  refine wpAny_bind ?_
  unfold Builtin.List.listItems
  refine wpAny_bind (wpAny_seqItems hS rfl (wpAny_pure ?_))
  show wpAny _ A.in1.in1 (updateSeq s.heap.objs.size (fun _ => #[]) >>= fun _ => letGo (#[] : Array Value).toList.reverse >>= fun _ => Builtin.List.listExtendWith (.ref s.heap.objs.size) (.ref z) .none) _ _ _
  refine wpAny_bind (wpAny_updateSeq hS rfl ?_)
  have hS2 := Heap.get?_update_self (Obj.mapSeq (fun _ => (#[] : Array Value))) hS rfl
  refine wpAny_bind (wpAny_letGo ?_)
  unfold Builtin.List.listExtendWith
  have up : ∀ (h : Heap) (f : Obj → Obj), (∀ b o, s.heap.get? b = some o → h.get? b = some o) → ∀ b o, s.heap.get? b = some o → (h.update s.heap.objs.size f).get? b = some o := fun h f q b o e =>
    (Heap.get?_update_other _ _ (Ne.symm (lt e))).trans (q b o e)
  have k1 : ∀ b o, s.heap.get? b = some o → (s.heap.push { cls := .type "list", data := .seq #[] }).get? b = some o := fun b o e => Heap.get?_push_of_some _ e
  have k2 := up _ (Obj.mapSeq (fun _ => (#[] : Array Value))) k1
  have zty : ∀ {h : Heap}, (∀ b o, s.heap.get? b = some o → h.get? b = some o) → ({ s with heap := h } : Shared).TypeIs (.ref z) "zip" := fun {h} q => ⟨_, q z _ hzz, rfl⟩
  refine wpAny_bind (wpAny_typeOf (zty k2) ?_)
  have c1 : Builtin.List.listSameRef (.ref s.heap.objs.size) (.ref z) = false := by simp [Builtin.List.listSameRef, (lt hzz).symm]
  have c2 : (Value.type "zip" == Value.type "list") = false := by decide
  have c3 : (Value.type "zip" == Value.type "tuple") = false := by decide
  simp only [c1, c2, c3, Bool.or_false, Bool.false_eq_true, if_false]
  refine wpAny_bind (zs_iter (s := { s with heap := _ }) (k2 z _ hzz) ?_)
  refine wpAny_bind (wpAny_holding ?_)
  unfold Builtin.List.listLengthHint
  refine wpAny_bind (wpAny_specialOf (zty k2) zip_len0 ?_)
  show wpAny _ A.in1.in1 (specialOf (Value.ref z) (Str.ofString "__length_hint__") >>= _) _ _ _
  refine wpAny_bind (wpAny_specialOf (zty k2) zip_hint0 ?_)
  refine wpAny_pure ?_
  show wpAny _ A.in1.in1 (rule "list.extend.makes-room" >>= fun _ => Builtin.List.listTouch (.ref s.heap.objs.size) >>= fun _ =>
    again (.builtin "list.extend.loop" ⟨[.ref s.heap.objs.size, .ref z, .none], []⟩)) _ _ _
  refine wpAny_bind (wpAny_rule ?_)
  refine wpAny_bind ?_
  show wpAny _ A.in1.in1 (updateSeq s.heap.objs.size (·.push .none) >>= fun _ => updateSeq s.heap.objs.size (·.pop)) _ _ _
  refine wpAny_bind (wpAny_updateSeq hS2 rfl ?_)
  have hS3 := Heap.get?_update_self (Obj.mapSeq (·.push Value.none)) hS2 rfl
  refine wpAny_updateSeq (hz := by seq_fits) hS3 rfl ?_
  have hS4 := Heap.get?_update_self (Obj.mapSeq (·.pop)) hS3 rfl
  have k4 := up _ (Obj.mapSeq (·.pop)) (up _ (Obj.mapSeq (·.push Value.none)) k2)
  refine wpAny_pure ⟨plainId_quiet F.plain_extend_loop _, ?_⟩
  have hHS : H s.heap.objs.size = none := I.hok.fresh (Nat.le_refl _)
  have I2 := I.laid (t' := s.toks) (a := s.heap.objs.size) (o := .lst []) k4 (Nat.le_refl _) ⟨Nat.zero_le _, [], _, .nil, hS4⟩
  refine drainZ (X := X) (pins := pins) (σ := σ) (A := A.in1) (H0 := H) hh D r1 r2 hl hz (lt hzz) (lt hTI) (lt hTO) n4 n5 n6 n7 (fun G outs s' a1 a2 a3 => ⟨rfl, hend G outs _ s' hHS a1 a2 a3⟩) xs.length 0 H [] _ (Nat.zero_add _) ?_ hHS I2 ?_ (fun c hc => ?_) rfl
  · rw [List.take_zero, List.take_zero]
    exact .nil
  · exact ⟨⟨_, _, k4 _ _ hzz, .inl rfl⟩, k4 _ _ hTI, ⟨_, _, k4 _ _ hTO⟩, t1.at fun o e => k4 _ o e, t2.at fun o e => k4 _ o e, g1.at fun o e => k4 _ o e, g2.at fun o e => k4 _ o e⟩
  · have f := hf c hc
    refine ⟨?_, f.2⟩
    have hcS : c ≠ s.heap.objs.size := by
      have hc' : c = z ∨ c = TI ∨ c = TO ∨ c = i1 ∨ c = i2 := by simpa using hc
      rcases hc' with rfl | rfl | rfl | rfl | rfl
      · exact lt hzz
      · exact lt hTI
      · exact lt hTO
      · exact n4
      · exact n5
    rw [upd_ne hcS]
    exact f.1
theorem callWith_tk {M : Model} {A : Around} {E : Value → Shared → Prop} {s : Shared} {env : Env} {pos : Pos} {T : String} {e : Expr} {rest : List Expr} {kws : List Keyword} {Q : Value → Shared → Prop}
    (h : wpAny M A (spliced (backTo pos (starEach (e :: rest) env))) (fun vs s₁ => wpAny M A (evalAll ((backToKw pos (keywordEach kws env)).map (·.2)))
      (fun kvs s₂ => wpAny M A (call (.type T) vs (((backToKw pos (keywordEach kws env)).filterMap (·.1)).zip kvs)) Q E s₂) E s₁) E s)
    (he : backTo pos (starEach (e :: rest) env) = (false, eval e env) :: backTo pos (starEach rest env) := by rfl)
    (hplain : (backTo pos (starEach (e :: rest) env)).any (·.1) = false := by rfl)
    (hall : (backToKw pos (keywordEach kws env)).all (·.1.isSome) = true := by rfl)
    (hkw : (backToKw pos (keywordEach kws env)).any (·.1.isNone) = false := by rfl) :
    wpAny M A (callWith pos (.type T) [] (backTo pos (starEach (e :: rest) env)) (backToKw pos (keywordEach kws env))) Q E s := by
  have hev : wpAny M A (evalArgs (.type T) true (backTo pos (starEach (e :: rest) env)) (backToKw pos (keywordEach kws env))) (fun a s₁ => wpAny M A (call (.type T) ([] ++ a.pos) a.kw) Q E s₁) E s := by
    rw [he] at h ⊢
    exact evalArgs_kwB hall h
  unfold callWith
  refine wpAny_bind (wpAny_holding (wpAny_mono hev (fun a s₁ h₁ => wpAny_bind (wpAny_standAt ?_)) fun _ _ x => x))
  simp only [hplain, hkw, Bool.or_false]
  refine wpAny_bind (wpAny_pure ?_)
  exact wpAny_bind (wpAny_mono h₁ (fun r s₂ hr => wpAny_bind (wpAny_holding (wpAny_point (wpAny_pure hr)))) fun _ _ x => x)
def tLZ (K : PySem.W.Frag) (ta : TA) : TE := fun σ H Q => ta σ H fun vs H1 => ∃ a b xs ys, vs = [.ref a, .ref b] ∧ SqT K H1 a xs ∧ SqT K H1 b ys ∧ xs.length = ys.length ∧ ∀ G outs S, H1 S = none → ZipG H1 xs ys outs G → G S = none → Q (.ref S) (upd G S (.lst outs))
theorem pe_listZs {X : Cx} {e e2 : Expr} {ta : TA} {p p2 kp pos zpos : Pos} {j : Nat} {vp : Pos} (hc : X.calm = true) (hml : X.mg "list" = none) (hmz : X.mg "zip" = none) (ha : PA X [e, e2] ta) (hgl : Gl X "list" := by rfl) (hgz : Gl X "zip" := by rfl)
    (he0 : starEach [.Call (.Name "zip" p2) [e, e2] [⟨some "strict", .Constant (.bool true) j vp, kp⟩] zpos] X.env = (false, eval (.Call (.Name "zip" p2) [e, e2] [⟨some "strict", .Constant (.bool true) j vp, kp⟩] zpos) X.env) :: starEach [] X.env := by rfl)
    (he : backTo zpos (starEach [e, e2] X.env) = (false, eval e X.env) :: backTo zpos (starEach [e2] X.env) := by rfl)
    (hpl : (backTo zpos (starEach [e, e2] X.env)).any (·.1) = false := by rfl) :
    PE X (.Call (.Name "list" p) [.Call (.Name "zip" p2) [e, e2] [⟨some "strict", .Constant (.bool true) j vp, kp⟩] zpos] [] pos) (tLZ X.K ta) := by
  refine ⟨fun pins s σ H Q I hq => ?_⟩
  refine wpAny_Call_Name_kw (ld_blt I hgl hml (show bootBuiltins "list" = some (.type "list") by decide +kernel) ?_)
  refine PyProof.Rows.callWith_type1 ?_ he0 rfl
  rw [he0]
  show wpAny _ _ (spliced ((false, eval _ X.env) :: backTo pos (starEach [] X.env))) _ _ s
  refine Calls.spliced_cons ?_
  refine wpAny_Call_Name_kw (ld_blt I hgz hmz PyProof.Rows.boot_zip ?_)
  refine callWith_tk (thn (ha.run zpos pins s σ H _ I hq) fun us s1 ⟨vs, H1, I1, rv, q1⟩ => ?_) he hpl
  obtain ⟨a, b, xs, ys, rfl, sx, sy, hl, q1⟩ := q1
  refine thn ((pk_cons (pe_bl (b := true)) pk_nil).run zpos pins s1 σ H1 (fun vs H2 => vs = [.bl true] ∧ H2 = H1) I1 ⟨rfl, rfl⟩) fun ws s2 ⟨zs, H2, I2, rz, e1, e2⟩ => ?_
  subst e1 e2
  cases rv with
  | cons ra rr =>
    cases rr with
    | cons rb rr =>
      cases rr
      cases ra
      cases rb
      cases rz with
      | cons rk rr =>
        cases rr
        cases rk
        obtain ⟨its, rx, p1, hzx⟩ := I2.tuple sx
        obtain ⟨its2, ry, p2', _⟩ := I2.tuple sy
        have g1 : s2.heap.IsTuple a its.toArray := p1
        have g2 : s2.heap.IsTuple b its2.toArray := p2'
        refine call_zs g1 g2 fun h' z1 z2 z3 z4 z5 hsz hk => ?_
        refine Calls.spliced_nil ?_
        have fresh5 : ∀ c, c ∈ [s2.heap.objs.size + 4, s2.heap.objs.size + 2, s2.heap.objs.size + 3, s2.heap.objs.size, s2.heap.objs.size + 1] → FpOk X pins H2 c := fun c hcm => by
          have e' : c = s2.heap.objs.size + 4 ∨ c = s2.heap.objs.size + 2 ∨ c = s2.heap.objs.size + 3 ∨ c = s2.heap.objs.size ∨ c = s2.heap.objs.size + 1 := by simpa using hcm
          have hle : s2.heap.objs.size ≤ c := by
            rcases e' with rfl | rfl | rfl | rfl | rfl
            · exact Nat.le_add_right _ _
            · exact Nat.le_add_right _ _
            · exact Nat.le_add_right _ _
            · exact Nat.le_refl _
            · exact Nat.le_add_right _ _
          exact I2.fpOk hle (I2.hok.fresh hle)
        have I3 : Inv X pins σ H2 { s2 with heap := h' } := I2.kept (t' := s2.toks) hk
        obtain ⟨o1, ho1, _⟩ := id g1
        obtain ⟨o2, ho2, _⟩ := id g2
        refine list_zs (I2.ok.hd hc) (PySem.W.ktu_apart s2.heap.objs.size a b (Heap.lt_size ho1) (Heap.lt_size ho2)) rx ry hl hzx I3 z1 z2 z3 z4 z5 (g1.at fun o q => hk _ o q) (g2.at fun o q => hk _ o q) fresh5 fun G outs S s' a0 a1 a2 a3 => ?_
        exact ⟨.ref S, _, a3, rfl, q1 G outs S a0 a1 a2⟩
end L2.DL
/-! list(zip(a, b, strict=True)), as data -/
namespace L2.DL
open PySem PySem.Spec PyProof.Rows
variable [Tbs]
section
variable {K : ZK} {H G : Hp} {M : MS}
theorem relA_snoc : ∀ {vs : List V} {v : V} {ds : List D}, RelA K H M (vs ++ [v]) ds → ∃ ds' d, ds = ds' ++ [d] ∧ RelA K H M vs ds' ∧ Rel K H M v d
  | [], v, ds, h => by
    cases h with
    | cons a b =>
      cases b
      exact ⟨[], _, rfl, .nil, a⟩
  | u :: vs, v, ds, h => by
    cases h with
    | cons a b =>
      obtain ⟨ds', d, rfl, r1, r2⟩ := relA_snoc b
      exact ⟨_ :: ds', d, rfl, .cons a r1, r2⟩
theorem zipG_len {xs ys outs : List V} (g : ZipG H xs ys outs G) : xs.length = ys.length ∧ outs.length = xs.length := by
  induction g with
  | nil => exact ⟨rfl, rfl⟩
  | snoc g hT ih =>
    simp only [List.length_append, List.length_singleton]
    omega
theorem zipG_rel {xs ys outs : List V} (g : ZipG H xs ys outs G) (m : RelM K H M) : ∀ {ds es : List D}, RelA K H M xs ds → RelA K H M ys es → RelM K G M ∧ Ext K H M G M ∧ RelA K G M outs (zipD ds es) := by
  induction g with
  | nil =>
    intro ds es ra rb
    cases ra
    cases rb
    exact ⟨m, Ext.refl, .nil⟩
  | @snoc xs ys outs G x y T g hT ih =>
    intro ds es ra rb
    obtain ⟨ds, d, rfl, ra1, rd⟩ := relA_snoc ra
    obtain ⟨es, e, rfl, rb1, re⟩ := relA_snoc rb
    obtain ⟨m1, e1, r1⟩ := ih ra1 rb1
    have e2 := ext_new (o := .tup [x, y]) m1 hT
    refine ⟨relM_new m1 hT, e1.trans e2, ?_⟩
    have hl : ds.length = es.length := by rw [← ra1.length, ← rb1.length]; exact (zipG_len g).1
    have hz : zipD (ds ++ [d]) (es ++ [e]) = zipD ds es ++ [.tup [d, e]] := by
      unfold zipD
      rw [List.zipWith_append hl]
      rfl
    rw [hz]
    exact (e2.all r1).append (.cons (rel_pair hT m1 (e1 _ _ rd) (e1 _ _ re)) .nil)
end
def zsR : List D → PD → MS → Prop
  | [.tup xs, .tup ys], R, M => xs.length = ys.length ∧ R (.lst (zipD xs ys)) M
  | _, _, _ => False
def dLZ (t : DTA) : DTE := fun ρ R E M => t ρ (fun ds M1 => zsR ds R M1) E M
theorem de_listZs {X : Cx} {W : WX} {e e2 : Expr} {t : DTA} {p p2 kp pos zpos : Pos} {j : Nat} {vp : Pos} (hc : X.calm = true) (hml : X.mg "list" = none) (hmz : X.mg "zip" = none) (ha : DA X W [e, e2] t) (hgl : Gl X "list" := by rfl) (hgz : Gl X "zip" := by rfl)
    (he0 : starEach [.Call (.Name "zip" p2) [e, e2] [⟨some "strict", .Constant (.bool true) j vp, kp⟩] zpos] X.env = (false, eval (.Call (.Name "zip" p2) [e, e2] [⟨some "strict", .Constant (.bool true) j vp, kp⟩] zpos) X.env) :: starEach [] X.env := by rfl)
    (he : backTo zpos (starEach [e, e2] X.env) = (false, eval e X.env) :: backTo zpos (starEach [e2] X.env) := by rfl)
    (hpl : (backTo zpos (starEach [e, e2] X.env)).any (·.1) = false := by rfl) :
    DE X W (.Call (.Name "list" p) [.Call (.Name "zip" p2) [e, e2] [⟨some "strict", .Constant (.bool true) j vp, kp⟩] zpos] [] pos) (dLZ t) :=
  imp (pe_listZs hc hml hmz ha hgl hgz he0 he hpl) fun σ H Q ⟨z, ρ, M, R, E, hs, hm, h, hc, hE⟩ =>
    ⟨z, ρ, M, _, E, hs, hm, h, fun ds M1 vs H1 h1 m1 r1 e1 => by
      unfold zsR at h1
      split at h1
      · cases r1 with
        | cons x y =>
          cases y with
          | cons y y2 =>
            cases y2
            cases x with
            | tup s ra =>
              cases y with
              | tup s2 ra2 =>
                refine ⟨_, _, _, _, rfl, s, s2, by rw [ra.length, ra2.length]; exact h1.1, fun G outs S hS0 hG hS => ?_⟩
                obtain ⟨m2, e2, r2⟩ := zipG_rel hG m1 ra ra2
                exact hc _ _ _ _ h1.2 (relM_new m2 hS) (.lst (fz_new m2 hS) ((ext_new m2 hS).all r2)) (e1.trans (e2.trans (ext_new m2 hS)))
      · exact h1.elim, hE⟩
section
variable {ρ : Sl} {R : PD} {E : XP} {M : MS} {t : DTA} {xs ys : List D}
theorem v_lz : dLZ t ρ R E M = t ρ (fun ds M1 => zsR ds R M1) E M := (rfl)
theorem q_zs : zsR [.tup xs, .tup ys] R M = (xs.length = ys.length ∧ R (.lst (zipD xs ys)) M) := (rfl)
end
end L2.DL
/-! DLs: t[::-1]; sums of lists into a list of the store; sums of more; str, f-strings -/
namespace L2.DL
open PySem PySem.Spec PyProof.Rows
variable [Tbs]
section
variable {prog : Program} {w : World} {A : Around} {E : Value → Shared → Prop} {s : Shared}
theorem rev_places (n : Nat) : Builtin.Slice.slicePlaces ((n : Int) - 1) (-1) (-1) = n := by
  unfold Builtin.Slice.slicePlaces
  have h1 : ¬ ((-1 : Int) > 0) := by omega
  simp only [h1, if_false]
  split
  · rw [show (- -1 : Int) = 1 by decide, Int.ediv_one]; omega
  · omega
theorem rev_pick (xs : Array Value) : ((List.range xs.size).filterMap fun (m : Nat) => xs[(((xs.size : Int) - 1) + (m : Int) * (-1)).toNat]?).toArray = xs.toList.reverse.toArray := by
  have e : ((List.range xs.size).filterMap fun (m : Nat) => xs[(((xs.size : Int) - 1) + (m : Int) * (-1)).toNat]?) = ((List.range xs.size).map fun k => xs.size - 1 - k).filterMap (xs[·]?) := by
    rw [List.filterMap_map]
    have key : ∀ l : List Nat, (∀ m, m ∈ l → m < xs.size) → (l.filterMap fun (m : Nat) => xs[(((xs.size : Int) - 1) + (m : Int) * (-1)).toNat]?) = l.filterMap ((fun k => xs[k]?) ∘ fun k => xs.size - 1 - k) := by
      intro l hl
      induction l with
      | nil => rfl
      | cons m l ih =>
        have hm := hl m List.mem_cons_self
        have q : ((((xs.size : Int) - 1) + (m : Int) * (-1)).toNat) = xs.size - 1 - m := by omega
        rw [List.filterMap_cons, List.filterMap_cons, ih fun k hk => hl k (List.mem_cons_of_mem _ hk), q]
        rfl
    exact key _ fun m hm => List.mem_range.mp hm
  rw [e, PySem.W.krv_range, List.filterMap_reverse, PySem.W.krv_all]
theorem getItem_rev {t sl : Addr} {items : Array Value} {vl vu vk : Value} {Q : Value → Shared → Prop} (ht : IsTup s.heap t items) (hs : s.heap.IsSliceOf sl vl vu vk) (pl : IsPart vl none) (pu : IsPart vu none) (pk : IsPart vk (some (-1)))
    (h : Q (.ref s.heap.objs.size) { s with heap := s.heap.push { cls := .type "tuple", data := .seq items.toList.reverse.toArray } })
    (hsz : items.size ≤ sizeLine) : wpAny (model prog w) A (getItem (.ref t) (.ref sl)) Q E s := by
  have hok : sizeOk (.seq items.toList.reverse.toArray) := by
    show items.toList.reverse.toArray.size ≤ sizeLine
    rw [List.size_toArray, List.length_reverse, Array.length_toList]
    exact hsz
  obtain ⟨os, hos, hcs, hds⟩ := id hs
  have hTs : s.TypeIs (.ref sl) "slice" := ⟨os, hos, hcs⟩
  have sa : ∀ {Q : Int × Int × Nat → Shared → Prop}, Q ((items.size : Int) - 1, -1, items.size) s → wpAny (model prog w) A.in1 (Builtin.Slice.sliceApplied (.ref sl) (pure (items.size : Int))) Q E s := fun {Q} h => by
    unfold Builtin.Slice.sliceApplied Builtin.Slice.sliceFields
    refine wpAny_bind (wpAny_bind (wpAny_field hos hds (x := vl) rfl (wpAny_bind (wpAny_field hos hds (x := vu) rfl (wpAny_bind (wpAny_field hos hds (x := vk) rfl (wpAny_pure ?_)))))))
    refine wpAny_bind (HT.slicePart_ pk ?_)
    show wpAny _ _ (if ((-1 : Int) == 0) = true then _ else _) _ _ s
    rw [if_neg (by decide)]
    refine wpAny_bind (HT.slicePart_ pl (wpAny_bind (HT.slicePart_ pu (wpAny_bind (wpAny_pure ?_)))))
    show wpAny _ _ (pure ((items.size : Int) - 1, (-1 : Int), Builtin.Slice.slicePlaces ((items.size : Int) - 1) (-1) (-1))) _ _ s
    rw [rev_places]
    exact wpAny_pure h
  unfold getItem
  try with_reducible refine wpAny_holding ?_
  first | refine wpAny_bind (wpAny_pure ?_) | skip
  refine wpAny_bind (wpAny_sequenceKey ht.typeIs (by decide) ?_)
  refine wpAny_bind (wpAny_callSpecial?_slot (name := Str.ofString "__getitem__") ht.typeIs PyProof.Rows.slot_tuple_getitem
    (wpAny_call_entry PyProof.Rows.slot_tuple_getitem ht.typeIs PyProof.Rows.entry_tuple_getitem ?_ (PyProof.Rows.args_tuple_getitem _ _)))
  show wpAny _ _ (Builtin.Tuple.tupleItemsOf (.ref t) >>= _) _ _ s
  refine wpAny_bind (PyProof.Rows.tupleItemsOf_ ht ?_)
  refine wpAny_bind (wpAny_typeOf hTs ?_)
  rw [if_pos (by decide)]
  refine wpAny_bind (sa ?_)
  show wpAny _ _ (if (((items.size : Int) - 1) == 0 && (-1 : Int) == 1 && items.size == items.size) = true then _ else _) _ _ s
  rw [if_neg (by intro q; rw [Bool.and_eq_true, Bool.and_eq_true] at q; exact absurd (eq_of_beq q.1.2) (by decide)), rev_pick]
  first
    | exact wpAny_bind (m := Builtin.Tuple.tupleExact _) (wpAny_newObj_type (wpAny_pure ⟨_, rfl, wpAny_pure h⟩) hok)
    | exact wpAny_bind (m := Builtin.Tuple.tupleExact _) (wpAny_newObj_type (wpAny_bind (wpAny_pure (wpAny_pure ⟨_, rfl, wpAny_pure h⟩))) hok)
    | exact wpAny_bind (wpAny_bind (m := Builtin.Tuple.tupleExact _) (wpAny_newObj_type (wpAny_pure (wpAny_pure ⟨_, rfl, wpAny_pure h⟩)) hok))
    | exact wpAny_bind (wpAny_bind (m := Builtin.Tuple.tupleExact _) (wpAny_newObj_type (wpAny_pure ⟨_, rfl, wpAny_pure h⟩) hok))
end
section
variable {X : Cx}
def tRevA (K : PySem.W.Frag) (te : TE) : TE := fun σ H Q => te σ H fun x H1 => ∃ a xs, x = .ref a ∧ ((SqT K H1 a xs ∧ ∀ p, H1 p = none → Q (.ref p) (upd H1 p (.tup xs.reverse))) ∨ (SqL K H1 a xs ∧ ∀ p, H1 p = none → Q (.ref p) (upd H1 p (.lst xs.reverse))))
theorem pe_revA {e : Expr} {te : TE} {k : Nat} {p1 p2 p3 pos : Pos} (he : PE X e te) : PE X (.Subscript e (.Slice none none (some (.UnaryOp .USub (.Constant (.int 1) k p1) p2)) p3) pos) (tRevA X.K te) := by
  refine ⟨fun pins s σ H Q I h => ?_⟩
  refine Subscript_ (thn (he.run pins s σ H _ I h) fun v s1 ⟨x, H1, I1, r1, a, xs, ex, hq⟩ => ?_)
  subst ex
  cases r1
  have hst : PO X (some (.UnaryOp .USub (.Constant (.int 1) k p1) p2)) (tPart (tUn (rU fun i => .int (-i)) (tC (.int 1)))) := po_some (pe_un un_neg pe_int)
  refine wpAny_Slice (thn (po_none.run pins s1 σ H1 (fun o z2 => o = none ∧ z2 = H1) I1 ⟨rfl, rfl⟩) fun vl s2 ⟨l, H2, I2, pl, el, e2⟩ => ?_)
  subst el e2
  refine thn (po_none.run pins s2 σ H2 (fun o z3 => o = none ∧ z3 = H2) I2 ⟨rfl, rfl⟩) fun vu s3 ⟨u, H3, I3, pu, eu, e3⟩ => ?_
  subst eu e3
  refine thn (hst.run pins s3 σ H3 (fun o z4 => o = some (-1) ∧ z4 = H3) I3 ⟨1, rfl, -1, rfl, rfl, rfl⟩) fun vs s4 ⟨o, H4, I4, ps, eo, e4⟩ => ?_
  subst eo e4
  have I5 : Inv X pins σ H4 { s4 with heap := s4.heap.push { cls := .type "slice", data := .fields #[vl, vu, vs] } } := I4.kept (t' := s4.toks) fun b ob q => Heap.get?_push_of_some _ q
  show wpAny (model X.prog X.w) X.A (subscriptTail e (.Slice none none (some (.UnaryOp .USub (.Constant (.int 1) k p1) p2)) p3) (.ref a) (.ref s4.heap.objs.size)) (EP X pins σ Q) X.xe { s4 with heap := s4.heap.push { cls := .type "slice", data := .fields #[vl, vu, vs] } }
  rcases hq with ⟨hx, q⟩ | ⟨hx, q⟩
  · obtain ⟨its, r, ht, hz⟩ := I5.tuple hx
    have hlen := r.length
    refine tail_any (ops := [.ref a, .ref s4.heap.objs.size]) ht.typeIs PyProof.Rows.slot_tuple_getitem.lookup ?_ (by with_unfolding_all rfl)
    refine getItem_rev ht (Heap.IsSliceOf.new _ vl vu vs) pl pu ps ?_ (by rw [List.size_toArray]; omega)
    refine ⟨.ref _, _, I5.laid (t' := s4.toks) (o := .tup xs.reverse) (fun b ob z => Heap.get?_push_of_some _ z) (Nat.le_refl _) ?_, rfl, q _ (I5.hok.fresh (Nat.le_refl _))⟩
    exact ⟨by rw [List.length_reverse]; exact hz, _, r.reverse, IsTup.new _ _⟩
  · obtain ⟨its, r, ht, hz⟩ := I5.list hx
    have hlen := r.length
    refine tail_any (ops := [.ref a, .ref s4.heap.objs.size]) ht.isList.typeIs (PySem.slot_list_getitem.lookup) ?_ (by with_unfolding_all rfl)
    refine wpAny_getItem_list_slice ht.isList (Heap.IsSliceOf.new _ vl vu vs) pl pu ps (by decide) ?_ (by rw [List.size_toArray]; omega)
    rw [PySem.W.krv_pick]
    refine ⟨.ref _, _, I5.laid (t' := s4.toks) (o := .lst xs.reverse) (fun b ob z => Heap.get?_push_of_some _ z) (Nat.le_refl _) ?_, rfl, q _ (I5.hok.fresh (Nat.le_refl _))⟩
    exact ⟨by rw [List.length_reverse]; exact hz, _, 0, r.reverse, Heap.get?_push_size _ rfl⟩
end
/-! as data -/
def revD : D → PD → MS → Prop
  | .tup ds, R, M => R (.tup ds.reverse) M
  | .lst ds, R, M => R (.lst ds.reverse) M
  | .ref a, R, M => ∃ ds, M a = some (.lst ds) ∧ R (.lst ds.reverse) M
  | _, _, _ => False
def dRev (te : DTE) : DTE := fun ρ R E M => te ρ (fun d M1 => revD d R M1) E M
theorem RelA.reverse {K : ZK} {H : Hp} {M : MS} : ∀ {vs : List V} {ds : List D}, RelA K H M vs ds → RelA K H M vs.reverse ds.reverse
  | _, _, .nil => .nil
  | _, _, .cons a b => by
    rw [List.reverse_cons, List.reverse_cons]
    exact (RelA.reverse b).append (.cons a .nil)
theorem de_rev {X : Cx} {W : WX} {e : Expr} {te : DTE} {k : Nat} {p1 p2 p3 pos : Pos} (he : DE X W e te) : DE X W (.Subscript e (.Slice none none (some (.UnaryOp .USub (.Constant (.int 1) k p1) p2)) p3) pos) (dRev te) :=
  imp (pe_revA he) fun σ H Q ⟨z, ρ, M, R, E, hs, hm, h, hc, hE⟩ =>
    ⟨z, ρ, M, _, E, hs, hm, h, fun d M1 v H1 h1 m1 r1 e1 => by
      have h1 : revD d R M1 := h1
      unfold revD at h1
      split at h1
      · cases r1 with
        | tup s ra => exact ⟨_, _, rfl, .inl ⟨s, fun p hp => hc _ _ _ _ h1 (relM_new m1 hp) (.tup (SqT.of upd_same) ((ext_new m1 hp).all ra.reverse)) (e1.trans (ext_new m1 hp))⟩⟩
      · cases r1 with
        | lst s ra => exact ⟨_, _, rfl, .inr ⟨s.sq, fun p hp => hc _ _ _ _ h1 (relM_new m1 hp) (.lst (fz_new m1 hp) ((ext_new m1 hp).all ra.reverse)) (e1.trans (ext_new m1 hp))⟩⟩
      · cases r1
        obtain ⟨ds, ea, q⟩ := h1
        obtain ⟨vs, ee, ra⟩ := m1.at' _ _ ea
        exact ⟨_, _, rfl, .inr ⟨SqL.of ee, fun p hp => hc _ _ _ _ q (relM_new m1 hp) (.lst (fz_new m1 hp) ((ext_new m1 hp).all ra.reverse)) (e1.trans (ext_new m1 hp))⟩⟩
      · exact h1.elim, hE⟩
/-- a sum of lists that is a list of the store -/
def addND : D → D → PD → MS → Prop := fun x y R M => ∃ a b, Ls M x a ∧ Ls M y b ∧ a.length + b.length ≤ sizeLine ∧ ∀ p, M p = none → R (.ref p) (um M p (.lst (a ++ b)))
theorem o_addN {X : Cx} : OpD X (binaryOp .Add) addND := by
  refine ⟨_, op_cat, fun z H M x y vx vy R Q m rx ry h hc => ?_⟩
  obtain ⟨a, b, la, lb, hz, q⟩ := h
  obtain ⟨p1, vs, rfl, h1, r1⟩ := ls_at m la rx
  obtain ⟨p2, us, rfl, h2, r2⟩ := ls_at m lb ry
  exact ⟨p1, p2, vs, us, rfl, rfl, h1, h2, by rw [r1.length, r2.length]; exact hz, fun p hp =>
      hc _ _ _ _ (q p (m.free hp)) (alloc_lst m hp (r1.append r2)) (.ref p) (ext_alloc m hp)⟩
section
variable {ρ : Sl} {R : PD} {E : XP} {M : MS} {te : DTE} {xs ys : List D} {a b : Addr}
theorem v_rev : dRev te ρ R E M = te ρ (fun d M1 => revD d R M1) E M := (rfl)
theorem q_revT : revD (.tup xs) R M = R (.tup xs.reverse) M := (rfl)
theorem q_revL : revD (.lst xs) R M = R (.lst xs.reverse) M := (rfl)
theorem q_revR : revD (.ref a) R M = ∃ ds, M a = some (.lst ds) ∧ R (.lst ds.reverse) M := (rfl)
theorem q_addN : addND (.ref a) (.lst ys) R M = ∃ ds, M a = some (.lst ds) ∧ ds.length + ys.length ≤ sizeLine ∧ ∀ p, M p = none → R (.ref p) (um M p (.lst (ds ++ ys))) := by
  apply propext
  constructor
  · rintro ⟨ds, es, h1, h2, h3, h4⟩
    cases (show es = ys from h2)
    exact ⟨ds, h1, h3, h4⟩
  · rintro ⟨ds, h1, h3, h4⟩
    exact ⟨ds, ys, h1, rfl, h3, h4⟩
theorem q_addNL : addND (.lst xs) (.lst ys) R M = (xs.length + ys.length ≤ sizeLine ∧ ∀ p, M p = none → R (.ref p) (um M p (.lst (xs ++ ys)))) := by
  apply propext
  constructor
  · rintro ⟨ds, es, h1, h2, h3, h4⟩
    cases (show es = ys from h2)
    cases (show ds = xs from h1)
    exact ⟨h3, h4⟩
  · rintro ⟨h3, h4⟩
    exact ⟨xs, ys, rfl, rfl, h3, h4⟩
theorem q_addR : addD (.ref a) (.lst ys) R M = ∃ ds, M a = some (.lst ds) ∧ ds.length + ys.length ≤ sizeLine ∧ R (.lst (ds ++ ys)) M := by
  apply propext
  constructor
  · rintro ⟨ds, es, h1, h2, h3, h4⟩
    cases (show es = ys from h2)
    exact ⟨ds, h1, h3, h4⟩
  · rintro ⟨ds, h1, h3, h4⟩
    exact ⟨ds, ys, h1, rfl, h3, h4⟩
theorem q_slR {lo hi : Option Int} : slD (.ref a) lo hi R M = ∃ ds, M a = some (.lst ds) ∧ R (.lst (cut ds lo hi)) M := (rfl)
end
end L2.DL
/-! DLt: str, f-strings, ranges with a step, count of flat items, in flat tuples and lists -/
namespace L2.DL
open PySem PySem.Spec PyProof.Rows
variable [Tbs]
section
variable {X : Cx} {W : WX} {a b c e tg : Expr} {pos : Pos}
/-! str -/
def strD : List D → PD → MS → Prop
  | [.int i], R, M => i.natAbs.log2 < 1920 ∧ R (.str (Str.ofString (toString i))) M
  | [.str y], R, M => R (.str y) M
  | _, _, _ => False
theorem c_str : CallD X (.type "str") strD := by
  refine ⟨_, CallR.or call_str_int SkE.call_str_str, fun z H M xs vs R Q m ra h hc => ?_⟩
  unfold strD at h
  split at h
  · cases ra with
    | cons x y =>
      cases y; cases x
      exact .inl ⟨_, rfl, h.1, hc.here h.2 m (.str _)⟩
  · cases ra with
    | cons x y =>
      cases y; cases x
      exact .inr ⟨_, rfl, hc.here h m (.str _)⟩
  · exact h.elim
/-! f-strings -/
def fmtD : D → PD → MS → Prop
  | .str y, R, M => y.length ≤ sizeLine ∧ R (.str y) M
  | .int i, R, M => i.natAbs.log2 < 1920 ∧ R (.str (Str.ofString (toString i))) M
  | _, _, _ => False
def dFmt (te : DTE) : DTE := fun ρ R E M => te ρ (fun d M1 => fmtD d R M1) E M
theorem de_fmt {te : DTE} (he : DE X W e te) : DE X W (.FormattedValue e (-1) none pos) (dFmt te) :=
  imp (pe_fmt he) fun σ H Q ⟨z, ρ, M, R, E, hs, hm, h, hc, hE⟩ =>
    ⟨z, ρ, M, _, E, hs, hm, h, fun d M1 v H1 h1 m1 r1 e1 => by
      have h1 : fmtD d R M1 := h1
      have hc1 := hc.ext e1
      unfold fmtD at h1
      split at h1
      · cases r1
        exact .inl ⟨_, rfl, h1.1, hc1.here h1.2 m1 (.str _)⟩
      · cases r1
        exact .inr ⟨_, rfl, h1.1, hc1.here h1.2 m1 (.str _)⟩
      · exact h1.elim, hE⟩
def strW (k : Str → MS → Prop) : D → MS → Prop
  | .str y, M => k y M
  | _, _ => False
/-- the parts from the left -/
def jsW : List DTE → Str → Sl → (Str → MS → Prop) → XP → MS → Prop
  | [], acc, _, R, _, M => R acc M
  | t :: ts, acc, ρ, R, E, M => t ρ (fun d M1 => strW (fun y M2 => (acc ++ y).length ≤ sizeLine ∧ jsW ts (acc ++ y) ρ R E M2) d M1) E M
inductive DJ (X : Cx) (W : WX) : List Expr → List DTE → Prop
  | nil : DJ X W [] []
  | cons {e : Expr} {t : DTE} {es : List Expr} {ts : List DTE} (h : DE X W e t) (r : DJ X W es ts) : DJ X W (e :: es) (t :: ts)
theorem DJ.pj {es : List Expr} {ts : List DTE} (h : DJ X W es ts) : PJ X es (ts.map (lift X.K W)) := by
  induction h with
  | nil => exact .nil
  | cons h r ih => exact .cons h ih
theorem js_run {z : Hd} {σ : St} {ρ : Sl} {R : Str → MS → Prop} {E : XP} {Q : Str → Hp → Prop} : ∀ (ts : List DTE) (acc : Str) (H : Hp) (M : MS), RelS ⟨X.K, z⟩ H M σ ρ → RelM ⟨X.K, z⟩ H M → jsW ts acc ρ R E M →
    (∀ out M' H', R out M' → RelM ⟨X.K, z⟩ H' M' → Ext ⟨X.K, z⟩ H M H' M' → Q out H') → XOk ⟨X.K, z⟩ H M W E → tJs (ts.map (lift X.K W)) acc σ H Q
  | [], acc, H, M, hs, hm, h, hc, hE => hc acc M H h hm Ext.refl
  | t :: ts, acc, H, M, hs, hm, h, hc, hE => by
    refine ⟨z, ρ, M, _, E, hs, hm, h, fun d M1 v H1 h1 m1 r1 e1 => ?_, hE⟩
    have h1 : strW (fun y M2 => (acc ++ y).length ≤ sizeLine ∧ jsW ts (acc ++ y) ρ R E M2) d M1 := h1
    unfold strW at h1
    split at h1
    · cases r1
      exact ⟨_, rfl, h1.1, js_run ts _ H1 M1 (hs.ext e1) m1 h1.2 (fun out M' H' a b c => hc out M' H' a b (e1.trans c)) (hE.ext e1)⟩
    · exact h1.elim
def dJoin (ts : List DTE) : DTE := fun ρ R E M => jsW ts Str.empty ρ (fun out M1 => R (.str out) M1) E M
theorem de_join {v1 v2 : Expr} {rest : List Expr} {ts : List DTE} (h : DJ X W (v1 :: v2 :: rest) ts) : DE X W (.JoinedStr (v1 :: v2 :: rest) pos) (dJoin ts) :=
  imp (pe_joined h.pj) fun σ H Q ⟨z, ρ, M, R, E, hs, hm, h, hc, hE⟩ => js_run ts _ H M hs hm h (fun out M' H' a b c => hc _ _ _ _ a b (.str _) c) hE
/-! ranges with a step -/
def rngS (lo c : Int) (n : Nat) : List D := (List.range n).map fun (i : Nat) => D.int (lo + i * c)
theorem itOk_rngS {K : ZK} {H : Hp} {M : MS} {lo c : Int} {n : Nat} : ItOk K (Itc lo c n) (rngS lo c n) H M where
  go := fun K' i H' M' hk hi m e => by
    have h : i < n := by simpa [rngS] using hi
    exact h
  stop := fun K' H' M' hk m e => by
    show n ≤ (rngS lo c n).length
    simp [rngS]
  yld := fun K' i x H' M' H'' hk hi m e y => by
    obtain ⟨rfl, rfl⟩ := y
    have h : i < n := by simpa [rngS] using hi
    refine ⟨.int (lo + i * c), ?_, .int _, m, Ext.refl⟩
    unfold rngS
    rw [List.getElem?_map, List.getElem?_range h]
    rfl
def dRng3 (t : DTA) : DTI := fun ρ R E M => t ρ (fun ds M1 => match ds with
  | [.int i, .int j, .int c] => ∃ n, RgC i j c n ∧ R (rngS i c n) M1
  | _ => False) E M
theorem di_rng3 {t : DTA} {pp : Pos} (hm : X.mg "range" = none) (ha : DA X W [a, b, c] t) (hg : Gl X "range" := by rfl) (hs : starEach [a, b, c] X.env = (false, eval a X.env) :: starEach [b, c] X.env := by rfl) (hpl : (backTo pos (starEach [b, c] X.env)).any (·.1) = false := by rfl) :
    DI X W tg (.Call (.Name "range" pp) [a, b, c] [] pos) (dRng3 t) :=
  impI (pi_range3 hg hm ha hs hpl) fun σ H Q ⟨z, ρ, M, R, E, hs, hm, h, hc, hE⟩ =>
    ⟨z, ρ, M, _, E, hs, hm, h, fun ds M1 vs H1 h1 m1 r1 e1 => by
      split at h1
      · cases r1 with
        | cons x y =>
          cases y with
          | cons y y2 =>
            cases y2 with
            | cons y3 y4 =>
              cases x; cases y; cases y3; cases y4
              obtain ⟨n, hr, q⟩ := h1
              exact ⟨_, _, _, n, rfl, hr, hc _ _ _ _ q m1 e1 itOk_rngS⟩
      · exact h1.elim, hE⟩
/-! count -/
theorem cnt_eqU {x : V} : ∀ {xs : List V} {us : List Value}, Vals xs us → xs.all flatV = true → us.countP (eqU x) = xs.countP fun y => eqV y x
  | _, _, .nil, _ => rfl
  | y :: xs, u :: us, .cons r t, f => by
    rw [List.all_cons, Bool.and_eq_true] at f
    rw [List.countP_cons, List.countP_cons, eqU_of r f.1, cnt_eqU t f.2]
theorem mt_countV : MtR X "list.count" (fun x xs H Q => ∃ (p : Addr) (vs : List V) (y : V), x = .ref p ∧ xs = [y] ∧ SqL X.K H p vs ∧ flatV y = true ∧ vs.all flatV = true ∧ Q (.int (vs.countP fun z => eqV z y : Nat)) H) := by
  intro pins s σ H x xs v us Q I rx rxs h
  obtain ⟨p, vs, y, rfl, rfl, hs, fy, fs, q⟩ := h
  cases rx
  obtain ⟨u, rfl, ru⟩ := rxs.one
  obtain ⟨its, rv, ⟨⟨cls, dd, data, sl⟩, n, ho, hc, hdn, hd⟩, hlen⟩ := I.list hs
  simp only at hc hd
  subst hc hd
  refine call_meets PySem.F.slot_list_count ⟨_, ho, rfl⟩ PySem.F.entry_list_count (PySem.F.args_list_count_2 _ _)
    (SeqAt.list_countAt p its.toArray n dd sl u (eqU y)) ⟨ho, fun w hw => mem_eqAt ru fy rv fs w (by simpa using hw), ?_⟩
  refine ⟨.int (vs.countP fun z => eqV z y : Nat), H, I.tok _, ⟨s.toks, ?_⟩, q⟩
  rw [← cnt_eqU rv fs]
def cntD : D → List D → PD → MS → Prop
  | x, [.bl b], R, M => ∃ bs, lsBls M x bs ∧ R (.int (bs.count b : Nat)) M
  | x, [.int i], R, M => ∃ ns, lsInts M x ns ∧ R (.int (ns.count i : Nat)) M
  | _, _, _, _ => False
theorem m_count : MtD X "list.count" cntD := by
  refine ⟨_, mt_countV, fun z H M x xs v vs R Q m rx ra h hc => ?_⟩
  unfold cntD at h
  split at h
  · rename_i b
    obtain ⟨bs, hl, q⟩ := h
    obtain ⟨p, rfl, sq⟩ := lsBls_at m hl rx
    cases ra with
    | cons r1 r2 =>
      cases r2
      cases r1
      have e : (bs.map V.bl).countP (fun z => eqV z (.bl b)) = bs.count b := by
        rw [List.countP_map]
        rfl
      exact ⟨p, _, _, rfl, rfl, sq, rfl, by rw [List.all_map]; exact List.all_eq_true.mpr fun _ _ => rfl, by rw [e]; exact hc.here q m (.int _)⟩
  · rename_i i
    obtain ⟨ns, hl, q⟩ := h
    obtain ⟨p, rfl, sq⟩ := lsInts_at m hl rx
    cases ra with
    | cons r1 r2 =>
      cases r2
      cases r1
      have e : (ns.map V.int).countP (fun z => eqV z (.int i)) = ns.count i := by
        rw [List.countP_map]
        rfl
      exact ⟨p, _, _, rfl, rfl, sq, rfl, by rw [List.all_map]; exact List.all_eq_true.mpr fun _ _ => rfl, by rw [e]; exact hc.here q m (.int _)⟩
  · exact h.elim
end
section
variable {ρ : Sl} {R : PD} {E : XP} {M : MS} {te : DTE} {t : DTA} {i j : Int} {y : Str} {ts : List DTE} {acc : Str} {RS : Str → MS → Prop} {ds : List D} {x : D} {b : Bool}
theorem q_strI : strD [.int i] R M = (i.natAbs.log2 < 1920 ∧ R (.str (Str.ofString (toString i))) M) := (rfl)
theorem q_strS : strD [.str y] R M = R (.str y) M := (rfl)
theorem v_fmt : dFmt te ρ R E M = te ρ (fun d M1 => fmtD d R M1) E M := (rfl)
theorem q_fmtI : fmtD (.int i) R M = (i.natAbs.log2 < 1920 ∧ R (.str (Str.ofString (toString i))) M) := (rfl)
theorem q_fmtS : fmtD (.str y) R M = (y.length ≤ sizeLine ∧ R (.str y) M) := (rfl)
theorem v_join : dJoin ts ρ R E M = jsW ts Str.empty ρ (fun out M1 => R (.str out) M1) E M := (rfl)
theorem v_jsN : jsW [] acc ρ RS E M = RS acc M := (rfl)
theorem v_jsC : jsW (te :: ts) acc ρ RS E M = te ρ (fun d M1 => strW (fun y M2 => (acc ++ y).length ≤ sizeLine ∧ jsW ts (acc ++ y) ρ RS E M2) d M1) E M := (rfl)
theorem q_strW {k : Str → MS → Prop} : strW k (.str y) M = k y M := (rfl)
theorem v_rng3 {R : List D → MS → Prop} : dRng3 t ρ R E M = t ρ (fun ds M1 => match ds with
  | [.int i, .int j, .int c] => ∃ n, RgC i j c n ∧ R (rngS i c n) M1
  | _ => False) E M := (rfl)
theorem q_isLL : isL M (.lst ds) = True := (rfl)
theorem q_cntB : cntD x [.bl b] R M = ∃ bs, lsBls M x bs ∧ R (.int (bs.count b : Nat)) M := (rfl)
theorem q_cntI : cntD x [.int i] R M = ∃ ns, lsInts M x ns ∧ R (.int (ns.count i : Nat)) M := (rfl)
end
end L2.DL
/-! DLu: sorted of ints, two subscripts at once, in / not in, defs that call themselves -/
namespace L2.DL
open PySem PySem.Spec PyProof.Rows
variable [Tbs]
theorem bt_sorted : bootBuiltins "sorted" = some (.builtin "sorted") := by decide +kernel
def sorD : List D → PD → MS → Prop
  | [d], R, M => ∃ ns, lsInts M d ns ∧ ∀ ns' : List Int, ns'.Perm ns → ns'.Pairwise (· ≤ ·) → R (.lst (ns'.map D.int)) M
  | _, _, _ => False
theorem c_sorted {X : Cx} : CallD X (.builtin "sorted") sorD := by
  refine ⟨_, cr_sortedI, fun z H M xs vs R Q m ra h hc => ?_⟩
  unfold sorD at h
  split at h
  · cases ra with
    | cons x y =>
      cases y
      obtain ⟨ns, s, q⟩ := h
      obtain ⟨p, rfl, s2⟩ := lsInts_at m s x
      exact ⟨_, ns, rfl, s2, fun ns' l hp hw hl => hc _ _ _ _ (q ns' hp hw) (relM_new m hl) (.lst (fz_new m hl) relA_ints) (ext_new m hl)⟩
  · exact h.elim
theorem q_sorL {ns : List Int} {R : PD} {M : MS} (q : ∀ ns' : List Int, ns'.Perm ns → ns'.Pairwise (· ≤ ·) → R (.lst (ns'.map D.int)) M) : sorD [.lst (ns.map D.int)] R M := ⟨ns, rfl, q⟩
theorem q_sor2 {i j : Int} {R : PD} {M : MS} (q : R (.lst [.int (if j < i then j else i), .int (if j < i then i else j)]) M) : sorD [.lst [.int i, .int j]] R M := by
  refine q_sorL (ns := [i, j]) fun ns' hp hw => ?_
  have hl := hp.length_eq
  match ns', hl with
  | [a, b], _ =>
    have hab : a ≤ b := by simpa using hw
    have hm : ∀ x, x ∈ [a, b] ↔ x ∈ [i, j] := fun x => hp.mem_iff
    have h1 := (hm a).mp (by simp)
    have h2 := (hm b).mp (by simp)
    have h3 := (hm i).mpr (by simp)
    have h4 := (hm j).mpr (by simp)
    simp only [List.mem_cons, List.not_mem_nil, or_false] at h1 h2 h3 h4
    have e : a = (if j < i then j else i) ∧ b = (if j < i then i else j) := by split <;> omega
    rw [e.1, e.2]
    exact q
/-! o[i], p[j] = x, y -/
section
variable {X : Cx} {W : WX} {e : Expr} {te : DTE} {pos : Pos}
theorem gsub_ok {to ti : DTE} {z : Hd} {ρ : Sl} {σ : St} {H : Hp} {M : MS} {d : D} {v : V} {k : MS → Prop} {Ex : XP} {Q : St → Hp → Prop} (hs : RelS ⟨X.K, z⟩ H M σ ρ) (hm : RelM ⟨X.K, z⟩ H M) (r1 : Rel ⟨X.K, z⟩ H M v d)
    (h : to ρ (fun o M2 => ti ρ (fun i M3 => setLD o i d k M3) Ex M2) Ex M) (hx : XOk ⟨X.K, z⟩ H M W Ex)
    (hc : ∀ H' M', k M' → RelM ⟨X.K, z⟩ H' M' → Ext ⟨X.K, z⟩ H M H' M' → Q σ H') :
    gSub (lift X.K W to) (lift X.K W ti) rSetL v σ H Q :=
  ⟨z, ρ, M, _, _, hs, hm, h, fun oo M2 vo H2 h2 m2 r2 e2 =>
      ⟨z, ρ, M2, _, _, hs.ext e2, m2, h2, fun ii M3 vi H3 h3 m3 r3 e3 => by
        have ro := e3 _ _ r2
        have rd := (e2.trans e3) _ _ r1
        cases oo with
        | ref a =>
          cases ii with
          | int k =>
            cases ro; cases r3
            obtain ⟨ds, j, ea, ej, q⟩ := h3
            obtain ⟨vs, eh, ra⟩ := m3.at' _ _ ea
            have w : Ext ⟨X.K, z⟩ H3 M3 (upd H3 a (.lst (vs.set j v))) (um M3 a (.lst (ds.set j d))) := ext_write m3 ea
            exact ⟨_, vs, _, j, rfl, rfl, eh, by rw [ra.length]; exact ej, hc _ _ q (relM_write m3 ea ⟨_, upd_same, w.all (ra.set rd j)⟩) (e2.trans (e3.trans w))⟩
          | _ => exact (show False from h3).elim
        | _ => exact (show False from h3).elim, hx.ext e2⟩, hx⟩
/-- two subscripts take the items of a pair -/
def dAsgS2 (te to1 ti1 to2 ti2 : DTE) : DTS := fun De ρ M => te ρ (fun d M1 => match d with
  | .tup [x, y] => to1 ρ (fun o M2 => ti1 ρ (fun i M3 => setLD o i x (fun M4 => to2 ρ (fun o' M5 => ti2 ρ (fun i' M6 => setLD o' i' y (fun M7 => De.nx ρ M7) M6) De.ex M5) De.ex M4) M3) De.ex M2) De.ex M1
  | _ => False) De.ex M
theorem ds_asgS2 {o1 i1 o2 i2 : Expr} {to1 ti1 to2 ti2 : DTE} {p1 p2 pt : Pos} {kt : Nat} (hcalm : X.calm = true) (he : DE X W e te) (ho1 : DE X W o1 to1) (hi1 : DE X W i1 ti1) (ho2 : DE X W o2 to2) (hi2 : DE X W i2 ti2)
    (hs : swapsWithSole [.Tuple [.Subscript o1 i1 p1, .Subscript o2 i2 p2] kt pt] e pos.line X.env = pure false := by rfl) (hw : swappedStores [.Tuple [.Subscript o1 i1 p1, .Subscript o2 i2 p2] kt pt] e X.env = pure none := by rfl)
    (h1 : (assignEach [.Tuple [.Subscript o1 i1 p1, .Subscript o2 i2 p2] kt pt] X.env).map (·.2) = [assign (.Tuple [.Subscript o1 i1 p1, .Subscript o2 i2 p2] kt pt) X.env] := by rfl)
    (e2 : (assignEach [.Subscript o1 i1 p1, .Subscript o2 i2 p2] X.env).map (·.2) = assign (.Subscript o1 i1 p1) X.env :: (assignEach [.Subscript o2 i2 p2] X.env).map (·.2) := by rfl)
    (e3 : (assignEach [.Subscript o2 i2 p2] X.env).map (·.2) = assign (.Subscript o2 i2 p2) X.env :: (assignEach [] X.env).map (·.2) := by rfl)
    (hn : (assignEach [.Subscript o1 i1 p1, .Subscript o2 i2 p2] X.env).length = 2 := by rfl) (hst : (assignEach [.Subscript o1 i1 p1, .Subscript o2 i2 p2] X.env).findIdx? (·.1) = none := by rfl)
    (ha1 : ∀ v, assign (.Subscript o1 i1 p1) X.env v = (do
      let ov ← holding [v] (eval o1 X.env)
      let iv ← holding [v, ov] (eval i1 X.env)
      standAt p1
      holding [v, ov, iv] (setItem ov iv v)
      release [v, ov, iv] []) := by intro _; rfl)
    (ha2 : ∀ v, assign (.Subscript o2 i2 p2) X.env v = (do
      let ov ← holding [v] (eval o2 X.env)
      let iv ← holding [v, ov] (eval i2 X.env)
      standAt p2
      holding [v, ov, iv] (setItem ov iv v)
      release [v, ov, iv] []) := by intro _; rfl) :
    DS X W (.Assign [.Tuple [.Subscript o1 i1 p1, .Subscript o2 i2 p2] kt pt] e pos) (dAsgS2 te to1 ti1 to2 ti2) :=
  impS (ps_asg he (pg_tup hcalm (pgs_cons (pg_sub ho1 hi1 set_list ha1) (pgs_cons (pg_sub ho2 hi2 set_list ha2) pgs_nil e3) e2) hn hst) hs hw h1) fun De σ H ⟨z, ρ, M, Dd, hs, hm, h, L⟩ =>
    ⟨z, ρ, M, _, _, hs, hm, h, fun d M1 v H1 h1 m1 r1 e1 => by
      dsimp only at h1
      split at h1
      · rename_i x y
        cases r1 with
        | tup sq ra =>
          have rl := ra.length
          cases ra with
          | cons ra1 ra2 =>
            cases ra2 with
            | cons ra2 ra3 =>
              cases ra3
              refine ⟨_, _, rfl, sq, rfl, _, _, rfl, ?_⟩
              refine gsub_ok (hs.ext e1) m1 ra1 h1 (L.ext e1).ex fun H4 M4 h4 m4 e4 => ?_
              refine ⟨_, _, rfl, ?_⟩
              refine gsub_ok (hs.ext (e1.trans e4)) m4 (e4 _ _ ra2) h4 (L.ext (e1.trans e4)).ex fun H7 M7 h7 m7 e7 => ?_
              exact ⟨rfl, L.nx _ _ _ _ h7 m7 (hs.ext (e1.trans (e4.trans e7))) (e1.trans (e4.trans e7))⟩
      · exact h1.elim, L.ex⟩
end
/-! in -/
theorem room65 {k : Nat} {A : Around} (r : Room k A) : A.units + 65 < cLine := by have := r.un; omega
def inG (f : Bool → Bool) (x y : D) (R : PD) (M : MS) : Prop := ∃ e es, Sees M x e ∧ Sees M y (.lst es) ∧ isP e = true ∧ isPs es = true ∧ SeqAt.shaped (pd e) = true ∧ SeqAt.shaped (pd (.lst es)) = true ∧ R (.bl (f ((pds es).any fun z => PyData.eqv z (pd e)))) M
def inD : D → D → PD → MS → Prop := inG id
def notInD : D → D → PD → MS → Prop := inG fun k => !k
theorem o_in {X : Cx} (hu : X.A.units + 65 < cLine) : OpD X (compareOp .In) inD := by
  refine ⟨_, op_inD hu, fun z H M x y vx vy R Q m rx ry h hc => ?_⟩
  obtain ⟨e, es, sx, sy, px, py, hx, hy, q⟩ := h
  exact ⟨_, _, dp_sees m sx px rx, dp_sees (e := .lst es) m sy py ry, hx, hy, hc.here q m (.bl _)⟩
theorem o_notin {X : Cx} (hu : X.A.units + 65 < cLine) : OpD X (compareOp .NotIn) notInD := by
  refine ⟨_, op_notInD hu, fun z H M x y vx vy R Q m rx ry h hc => ?_⟩
  obtain ⟨e, es, sx, sy, px, py, hx, hy, q⟩ := h
  exact ⟨_, _, dp_sees m sx px rx, dp_sees (e := .lst es) m sy py ry, hx, hy, hc.here q m (.bl _)⟩
/-! defs that call themselves -/
section
variable {P : Program} {w : World} {K : PySem.W.Frag} {mg : Str → Option Value} {base : Heap}
theorem Df.vac {x : Str} {st : Stmt} {ps : List Str} {k : Nat} {g : G} (T : Tx K mg x st)
    (bd : ∀ (kV doc pm : Value) (an : Option Addr) (cdv ct : Value) (us : List Value), us.length = ps.length → bindArgs (PySem.W.fnOf x x (defArgs st) (defBody st) (defScope st) .none kV doc pm an cdv ct) ⟨us, []⟩ = pure (ps.zip us))
    (h0 : ∀ ds R E M, g ds R E M → False) : Df P w K mg base x ps k g := by
  obtain ⟨f, fd, h1, F⟩ := T.ex
  refine ⟨f, fd, h1, F.kp, F.binds bd, ⟨fun ds R E M h => (h0 _ _ _ _ h).elim, fun A outer s H args us vs Q E hr hG e0 hbd r hsp => ?_⟩⟩
  obtain ⟨z, ds, M, R, RE, ra, rm, hgg, _⟩ := hsp
  exact (h0 _ _ _ _ hgg).elim
end
section
variable {De : DEnds} {ρ : Sl} {M : MS} {te to1 ti1 to2 ti2 : DTE}
theorem v_asgS2 : dAsgS2 te to1 ti1 to2 ti2 De ρ M = te ρ (fun d M1 => match d with
  | .tup [x, y] => to1 ρ (fun o M2 => ti1 ρ (fun i M3 => setLD o i x (fun M4 => to2 ρ (fun o' M5 => ti2 ρ (fun i' M6 => setLD o' i' y (fun M7 => De.nx ρ M7) M6) De.ex M5) De.ex M4) M3) De.ex M2) De.ex M1
  | _ => False) De.ex M := (rfl)
end
section
variable {M : MS} {R : PD} {ds : List D}
theorem q_lstT : lstD [.tup ds] R M = R (.lst ds) M := by
  apply propext
  constructor
  · rintro ⟨a, h1, h2⟩
    cases (show a = ds from h1)
    exact h2
  · exact fun h => ⟨_, rfl, h⟩
theorem q_lstL : lstD [.lst ds] R M = R (.lst ds) M := by
  apply propext
  constructor
  · rintro ⟨a, h1, h2⟩
    cases (show a = ds from h1)
    exact h2
  · exact fun h => ⟨_, rfl, h⟩
theorem q_lstNT : lstND [.tup ds] R M = ∀ p, M p = none → R (.ref p) (um M p (.lst ds)) := by
  apply propext
  constructor
  · rintro ⟨a, h1, h2⟩
    cases (show a = ds from h1)
    exact h2
  · exact fun h => ⟨_, rfl, h⟩
end
end L2.DL
/-! DLv: tuples repeated -/
namespace L2.DL
open PySem PySem.Spec PyProof.Rows
variable [Tbs]
def mulTD : D → D → PD → MS → Prop
  | .tup ds, .int k, R, M => ds ≠ [] ∧ 2 ≤ k ∧ k ≤ 1000 ∧ ds.length ≤ 1000 ∧ R (.tup (List.replicate k.toNat ds).flatten) M
  | _, _, _, _ => False
theorem o_mulT {X : Cx} : OpD X (binaryOp .Mult) mulTD := by
  refine ⟨_, op_repT, fun z H M x y vx vy R Q m rx ry h hc => ?_⟩
  unfold mulTD at h
  split at h
  · obtain ⟨h0, h1, h2, h3, q⟩ := h
    cases ry
    cases rx with
    | tup sx ax =>
      refine ⟨_, _, _, rfl, rfl, sx, fun e => h0 ?_, h1, h2, by rw [ax.length]; exact h3, fun p hp => hc _ _ _ _ q (relM_new m hp) (.tup (SqT.of upd_same) ((ext_new m hp).all (ax.rep _))) (ext_new m hp)⟩
      have l := ax.length
      rw [e] at l
      exact List.eq_nil_of_length_eq_zero l.symm
  · exact h.elim
section
variable {M : MS} {R : PD} {ds : List D} {k : Int}
theorem q_mulT : mulTD (.tup ds) (.int k) R M = (ds ≠ [] ∧ 2 ≤ k ∧ k ≤ 1000 ∧ ds.length ≤ 1000 ∧ R (.tup (List.replicate k.toNat ds).flatten) M) := (rfl)
end
end L2.DL
/-! DLw: three names at once -/
namespace L2.DL
open PySem PySem.Spec PyProof.Rows
variable [Tbs]
section
variable {X : Cx} {W : WX} {a b c : Expr} {pos : Pos}
def dPar3 (i j l : Nat) (ta : DTA) : DTS := fun De ρ M => ta ρ (fun ds M1 => match ds with | [x, y, z] => De.nx (((ρ.set i (some x)).set j (some y)).set l (some z)) M1 | _ => False) De.ex M
theorem ds_par3 (i j l : Nat) {x y w : Str} {px py pw pt pt2 : Pos} {kt k2 : Nat} {ta : DTA} (hc : X.calm = true) (hN : X.N.Nodup) (ha : DA X W [a, b, c] ta) (hi : X.N[i]? = some x := by rfl) (hj : X.N[j]? = some y := by rfl) (hl : X.N[l]? = some w := by rfl) (hij : i ≠ j := by decide) (hil : i ≠ l := by decide) (hjl : j ≠ l := by decide)
    (hx : X.env.scope.names.lookup x = some .local := by rfl) (hy : X.env.scope.names.lookup y = some .local := by rfl) (hw0 : X.env.scope.names.lookup w = some .local := by rfl)
    (hw : swappedStores [.Tuple [.Name x px, .Name y py, .Name w pw] kt pt] (.Tuple [a, b, c] k2 pt2) X.env = pure (some [x, y, w]) := by rfl)
    (hs : swapsWithSole [.Tuple [.Name x px, .Name y py, .Name w pw] kt pt] (.Tuple [a, b, c] k2 pt2) pos.line X.env = pure false := by rfl) :
    DS X W (.Assign [.Tuple [.Name x px, .Name y py, .Name w pw] kt pt] (.Tuple [a, b, c] k2 pt2) pos) (dPar3 i j l ta) :=
  impS (ps_par3 hc hN hi hj hl hij hil hjl hx hy hw0 ha hw hs) fun De σ H ⟨z, ρ, M, Dd, hs, hm, h, L⟩ =>
    ⟨z, ρ, M, _, _, hs, hm, h, fun ds M1 vs H1 h1 m1 r1 e1 => by
      cases r1 with
      | nil => exact (show False from h1).elim
      | cons a1 r1 =>
        cases r1 with
        | nil => exact (show False from h1).elim
        | cons a2 r1 =>
          cases r1 with
          | nil => exact (show False from h1).elim
          | cons a3 r1 =>
            cases r1 with
            | nil => exact ⟨_, _, _, rfl, L.nx _ _ _ _ h1 m1 ((((hs.ext e1).set i a1).set j a2).set l a3) e1⟩
            | cons a4 r1 => exact (show False from h1).elim, L.ex⟩
end
section
variable {De : DEnds} {ρ : Sl} {M : MS} {tl : DTA} {i j l : Nat}
theorem v_par3 : dPar3 i j l tl De ρ M = tl ρ (fun ds M1 => match ds with | [x, y, z] => De.nx (((ρ.set i (some x)).set j (some y)).set l (some z)) M1 | _ => False) De.ex M := (rfl)
end
end L2.DL
/-! DLx: exceptions of own classes over any built-in base, their __init__ walked -/
namespace PySem
namespace OXG
open PySem.W PySem.Calls PyProof.Rows PySem.HandSPX
/-- own classes, then the base's own line of classes -/
inductive Ch (T : List Value) : List Value → Prop
  | base : Ch T T
  | own {c : Addr} {r : List Value} (h : Ch T r) : Ch T (.ref c :: r)
/-- what the base says -/
structure ChF (T : List Value) : Prop where
  pass : ∀ self, refuseLoop self "__setattr__" T = pure ()
  ob : T.contains (.type "object") = true
  ne : T.isEmpty = false
theorem Ch.pass {T : List Value} (F : ChF T) (self : Value) : ∀ {l : List Value}, Ch T l → refuseLoop self "__setattr__" l = pure ()
  | _, .base => F.pass self
  | _, .own h => by rw [refuseLoop_ref]; exact h.pass F self
theorem Ch.con {T : List Value} (X : String) : ∀ {l : List Value}, Ch T l → l.contains (.type X) = T.contains (.type X)
  | _, .base => rfl
  | _, .own h => by rw [List.contains_cons, h.con X]; rfl
theorem Ch.ne {T : List Value} (F : ChF T) : ∀ {l : List Value}, Ch T l → l.isEmpty = false
  | _, .base => F.ne
  | _, .own _ => rfl
section
open Builtin Builtin.ObjectAttr
variable {prog : Program} {w : World} {A : Around} {E : Value → Shared → Prop} {R : Result → Shared → Prop} {hp : Heap} {g : Array GenState} {d : Drawn} {t : Nat} {os : OsState} {T : List Value}
/-- the first field that an exception gets -/
theorem put_first {K : W.Frag} {name : Str} {tk : Tok} {v : Value} {x C : Addr} {fv : Array Value} {cd : ClassData} (F : ChF T)
    (X : K.In hp) (hx : hp.get? x = some { cls := .ref C, data := .fields fv }) (hcd : W.clsIn K C = some cd) (hm : Ch T cd.mro) (hh : cd.hasDict = true) (ha : W.findIn K (.ref C) name = some none)
    (hq : ∀ h' tk' dx, (∀ b o, b ≠ x → hp.get? b = some o → h'.get? b = some o) → hp.objs.size ≤ dx → dx ≠ x → h'.get? x = some { cls := .ref C, dict := some dx, data := .fields fv } →
      h'.Ns1 dx (fun y => if y = name then some v else none) → R (.ok (.ret .none)) ⟨h', g, d, tk', os⟩) :
    codeAny (model prog w) A (.call (.builtin "object.__setattr__") ⟨[.ref x, .str name tk, v], []⟩) R ⟨hp, g, d, t, os⟩ := by
  have I : W.InstAt hp x { cls := .ref C, data := .fields fv } C none := ⟨hx, rfl, rfl, trivial⟩
  have SF := PySem.F.store_object
  have ne := hm.ne F
  have hob : cd.mro.contains (.type "object") = true := (hm.con "object").trans F.ob
  have hxs : x ≠ hp.objs.size := Nat.ne_of_lt (Heap.lt_size hx)
  have sub : W.Looks (model prog w) hp (isInstance (.ref x) (.type "object")) true := I.type.andThen (W.looks_mroIn X (by unfold W.mroIn; rw [hcd, Option.bind_some, if_neg (by rw [ne]; decide), hob]))
  refine codeAny_call_builtin SF.slot.plain SF.entry (@W.check_slot (model prog w) _ _ ⟨hp, g, d, t, os⟩ "object.__setattr__" "object" "__setattr__" (.ref x) [.str name tk, v] [] _ SF.kind SF.split sub (SF.args (.ref x) (.str name tk) v) ?_)
  have hmr : W.Looks (model prog w) hp (mroOf (.ref C)) cd.mro := (W.looks_clsIn X hcd).andThen .now
  have L3 : W.Looks (model prog w) hp (storeTaker? none) none := .now
  have hcls : W.Looks (model prog w) hp (classData C) cd := W.looks_clsIn X hcd
  rw [W.osa_eq, refuse_eq]
  refine wpAny_bind (wpAny_bind (I.type.at (wpAny_bind (hmr.at ?_))))
  rw [hm.pass F]
  refine wpAny_pure (wpAny_bind (I.type.at (wpAny_bind ((W.looks_findIn X ha).at (wpAny_bind (L3.at ?_))))))
  show wpAny _ _ (storeInOwnDict (.ref x) (.ref C) (.str name tk) name v false) _ _ _
  obtain ⟨nm, bs, mro, ns, qn, hd, sn, sb, ab, col, del⟩ := cd
  dsimp only at hh
  subst hh
  unfold storeInOwnDict ownDictForStores
  repeat (first | with_reducible refine store_in_new ?_ ?_ | with_reducible refine wpAny_loadPart_at hx ?_ | with_reducible refine hcls.at ?_ | wp_step)
  · exact ⟨_, #[], _, (Heap.get?_update_ne _ _ _ _ hxs.symm).trans (Heap.get?_push_at rfl rfl), rfl, fun e he => absurd he (by simp), fun _ => rfl⟩
  · intro h' tk' hn' hs
    have hx₁ : (hp.push { cls := .type "dict", data := .dict #[] }).get? x = some { cls := .ref C, data := .fields fv } := Heap.get?_push_of_some _ hx
    refine hq h' tk' hp.objs.size (fun b o hb ho => ?_) (Nat.le_refl _) hxs.symm ?_ hn'
    · exact (hs.2 b (Nat.ne_of_lt (Heap.lt_size ho))).trans ((Heap.get?_update_ne _ _ _ _ hb).trans (Heap.get?_push_of_some _ ho))
    · exact (hs.2 x hxs).trans (Heap.get?_update_self _ hx₁ rfl)
/-- a further one -/
theorem put_more {K : W.Frag} {name : Str} {tk : Tok} {v : Value} {x C dx : Addr} {fv : Array Value} {cd : ClassData} {m0 : Str → Option Value} {nl : List Str} (F : ChF T)
    (X : K.In hp) (hx : hp.get? x = some { cls := .ref C, dict := some dx, data := .fields fv }) (hns : hp.Ns1 dx m0) (hw : Within m0 nl) (hz : nl.length ≤ 1000) (hcd : W.clsIn K C = some cd) (hm : Ch T cd.mro) (hh : cd.hasDict = true)
    (ha : W.findIn K (.ref C) name = some none)
    (hq : ∀ h' tk', (∀ b o, b ≠ dx → hp.get? b = some o → h'.get? b = some o) → h'.Ns1 dx (fun y => if y = name then some v else m0 y) → R (.ok (.ret .none)) ⟨h', g, d, tk', os⟩) :
    codeAny (model prog w) A (.call (.builtin "object.__setattr__") ⟨[.ref x, .str name tk, v], []⟩) R ⟨hp, g, d, t, os⟩ := by
  obtain ⟨oD, esD, epD, hoD, hdD, _⟩ := hns.count hw
  have I : W.InstAt hp x { cls := .ref C, dict := some dx, data := .fields fv } C (some oD) := ⟨hx, rfl, rfl, hoD⟩
  have SF := PySem.F.store_object
  have ne := hm.ne F
  have hob : cd.mro.contains (.type "object") = true := (hm.con "object").trans F.ob
  have sub : W.Looks (model prog w) hp (isInstance (.ref x) (.type "object")) true := I.type.andThen (W.looks_mroIn X (by unfold W.mroIn; rw [hcd, Option.bind_some, if_neg (by rw [ne]; decide), hob]))
  refine codeAny_call_builtin SF.slot.plain SF.entry (@W.check_slot (model prog w) _ _ ⟨hp, g, d, t, os⟩ "object.__setattr__" "object" "__setattr__" (.ref x) [.str name tk, v] [] _ SF.kind SF.split sub (SF.args (.ref x) (.str name tk) v) ?_)
  have hmr : W.Looks (model prog w) hp (mroOf (.ref C)) cd.mro := (W.looks_clsIn X hcd).andThen .now
  have L3 : W.Looks (model prog w) hp (storeTaker? none) none := .now
  have hcls : W.Looks (model prog w) hp (classData C) cd := W.looks_clsIn X hcd
  rw [W.osa_eq, refuse_eq]
  refine wpAny_bind (wpAny_bind (I.type.at (wpAny_bind (hmr.at ?_))))
  rw [hm.pass F]
  refine wpAny_pure (wpAny_bind (I.type.at (wpAny_bind ((W.looks_findIn X ha).at (wpAny_bind (L3.at ?_))))))
  show wpAny _ _ (storeInOwnDict (.ref x) (.ref C) (.str name tk) name v false) _ _ _
  obtain ⟨nm, bs, mro, ns, qn, hd, sn, sb, ab, col, del⟩ := cd
  dsimp only at hh
  subst hh
  unfold storeInOwnDict ownDictForStores
  repeat (first | with_reducible refine PySem.OEX.store_in_old hns hw hz ?_ | with_reducible refine wpAny_loadPart_at hx ?_ | with_reducible refine hcls.at ?_ | wp_step)
  intro h' tk' hn' hs
  exact hq h' tk' (fun b o hb ho => (hs.2 b hb).trans ho) hn'
end
abbrev tV : List Value := [.type "ValueError", .type "Exception", .type "BaseException", .type "object"]
abbrev tL : List Value := [.type "LookupError", .type "Exception", .type "BaseException", .type "object"]
abbrev tZ : List Value := [.type "ZeroDivisionError", .type "ArithmeticError", .type "Exception", .type "BaseException", .type "object"]
theorem chV : ChF tV := ⟨fun self => PySem.F.store_ValueError.passes self, by decide +kernel, rfl⟩
theorem chL : ChF tL := ⟨fun self => PySem.F.store_LookupError.passes self, by decide +kernel, rfl⟩
theorem chZ : ChF tZ := ⟨fun self => PySem.F.store_ZeroDivisionError.passes self, by decide +kernel, rfl⟩
end OXG
end PySem
/-! DLy: the fields of an exception that is being made; its base's __init__; the class called -/
namespace L2
open PySem PySem.Spec PyProof.Rows PySem.OXG
/-- what the written part says of an own exception class over the base B -/
structure Ow (K : PySem.W.Frag) (C : Addr) (T : List Value) (newId : String) : Prop where
  cls : ∃ nm q N bs bm sn sub ab col dd k0 k1 k2 k3 k5, K.lookup C = some (excClassObj nm q C N bs bm true sn sub ab col dd k0 k1 k2 k3 k5 newId) ∧ Ch T bm
  sa : PySem.W.findIn K (.ref C) "__setattr__" = some (some (.builtin "object.__setattr__"))
  exC : PySem.W.subIn K (.ref C) (.type "BaseException") = some true
  tyC : PySem.W.typeIn K (.ref C) = some (.type "type")
  kC : PySem.W.keepIn K (.ref C) = true
section
variable {X : Cx} {pins : List (Addr × Obj)} {σ : St} {H : Hp} {s : Shared} {a C dx : Addr} {f : Str} {y : V} {u : Value} {fs : List (Str × V)} {Q : Unit → Shared → Prop} {E : Value → Shared → Prop} {A : Around} {T : List Value} {B newId initId : String}
theorem ow_cls {K : PySem.W.Frag} (O : Ow K C T newId) : ∃ cd : ClassData, PySem.W.clsIn K C = some cd ∧ Ch T cd.mro ∧ cd.hasDict = true := by
  obtain ⟨nm, q, N, bs, bm, sn, sub, ab, col, dd, k0, k1, k2, k3, k5, hC, hbm⟩ := O.cls
  refine ⟨{ name := nm, bases := bs, mro := .ref C :: bm, ns := N, qualname := q, hasDict := true, slotNames := sn, subclasses := sub, abstract := ab, collection := col, hasDel := false }, ?_, .own hbm, rfl⟩
  unfold PySem.W.clsIn
  rw [hC]
/-- self.f = y, the first one -/
theorem fld_new (F : ChF T) (O : Ow X.K C T newId) (I : Inv X pins σ H s) (e : H a = some (exo a C none)) (hno : PySem.W.findIn X.K (.ref C) f = some none) (ry : RelV y u)
    (h : ∀ dx s', H dx = none → dx ≠ a → Inv X pins σ (upd (upd H dx (exd dx [(f, y)])) a (exo a C (some dx))) s' → Q () s') : wpAny (model X.prog X.w) A (setAttr (.ref a) f u) Q E s := by
  obtain ⟨cd, hcl, hch, hhd⟩ := ow_cls O
  obtain ⟨t1, ho⟩ := exo_at I.hok e
  obtain ⟨hp, g, d, t, os⟩ := s
  refine PySem.W.set_plain I.kIn (ox := { cls := .ref C, dict := none, data := .fields #[.ref t1, .none, .none, .none, .bool false, .none] }) (od := none) ⟨ho, rfl, rfl, trivial⟩ O.sa ?_
  refine put_first F I.kIn ho hcl hch hhd hno (fun h' tk' dx k dn dne hx hn => ?_)
  have hnd : H dx = none := I.hok.fresh dn
  have nd : ∀ {b : Addr} {o : Obj}, hp.get? b = some o → b ≠ dx := fun {b o} q => Nat.ne_of_lt (Nat.lt_of_lt_of_le (Heap.lt_size q) dn)
  have na : ∀ {b : Addr}, H b = none → b ≠ a := fun {b} n z => by
    rw [z, e] at n
    cases n
  have Un1 : Un X.fs [] H (upd (upd H dx (exd dx [(f, y)])) a (exo a C (some dx))) hp h' := {
    keep := fun b o q n _ _ => k b o (na n) q
    slot := fun b o q n _ _ => ⟨o.slots, k b o (na n) q⟩
    free := fun b o q n _ => by rw [upd_ne (na n), upd_ne (nd q)]; exact n
    there := fun b o q _ => by
      by_cases hb : b = a
      · exact ⟨_, by rw [hb]; exact hx⟩
      · exact ⟨o, k b o hb q⟩
    tups := fun b xs q => by rw [upd_ne (at_ne e q exo_tup), upd_ne (ne_of_none q hnd)]; exact q
    frzs := fun b o v q => by rw [upd_ne (at_ne e q exo_frz), upd_ne (ne_of_none q hnd)]; exact q
    tbls := fun b ps q => ⟨#[], by rw [upd_ne (at_ne e q exo_tbl), upd_ne (ne_of_none q hnd), q]; simp⟩ }
  refine h dx _ hnd dne (I.un (t' := tk') Un1 fun b o q => ?_)
  by_cases hb : b = a
  · subst hb
    rw [upd_same] at q
    cases q
    exact exo_ok hx
  · rw [upd_ne hb] at q
    by_cases hd : b = dx
    · subst hd
      rw [upd_same] at q
      cases q
      exact exd_ok hn (relO_put (fs := []) ry fun g => True.intro)
    · rw [upd_ne hd] at q
      exact (I.hok b o q).stay (fun c v hc z => k c v (by
          rcases hc with hc | hc
          · rw [hc]
            exact hb
          · exact at_ne e hc exo_own) z)
        (fun c hc => by rw [upd_ne (at_ne e hc exo_own), upd_ne (ne_of_none hc hnd)]; exact hc) (fun c xs hc => by rw [upd_ne (at_ne e hc exo_tup), upd_ne (ne_of_none hc hnd)]; exact hc)
/-- self.f = y, a further one -/
theorem fld_more (F : ChF T) (O : Ow X.K C T newId) (I : Inv X pins σ H s) (e : H a = some (exo a C (some dx))) (ed : H dx = some (exd dx fs)) (hl : fs.length ≤ 900) (hno : PySem.W.findIn X.K (.ref C) f = some none) (ry : RelV y u)
    (h : ∀ s', Inv X pins σ (upd H dx (exd dx ((f, y) :: fs))) s' → Q () s') : wpAny (model X.prog X.w) A (setAttr (.ref a) f u) Q E s := by
  obtain ⟨cd, hcl, hch, hhd⟩ := ow_cls O
  obtain ⟨t1, ho⟩ := exo_at I.hok e
  obtain ⟨mA, hns, rel⟩ := exd_at I.hok ed
  have hw := within_of rel
  obtain ⟨hp, g, d, t, os⟩ := s
  obtain ⟨oD, _, _, hoD, _, _⟩ := hns.count hw
  refine PySem.W.set_plain I.kIn (ox := { cls := .ref C, dict := some dx, data := .fields #[.ref t1, .none, .none, .none, .bool false, .none] }) (od := some oD) ⟨ho, rfl, rfl, hoD⟩ O.sa ?_
  refine put_more F I.kIn ho hns hw (by rw [List.length_map]; omega) hcl hch hhd hno (fun h' tk' k hn => ?_)
  have hd : ∃ o, h'.get? dx = some o := by
    obtain ⟨o, _, _, e', _⟩ := hn
    exact ⟨o, e'⟩
  exact h _ (I.write (t' := tk') (x := dx) (e := dx) (o := exd dx ((f, y) :: fs)) (by rw [ed]; exact True.intro) (.inl rfl) k hd (exd_ok hn (relO_put ry rel)))
/-- the base's __init__ of it: nothing of it is told -/
theorem base_init (G : ExcBaseFacts B newId initId T) {us : List Value} {Q : Value → Shared → Prop} (O : Ow X.K C T newId) (I : Inv X pins σ H s) (e : H a = some (exo a C none)) (hl : us.length ≤ sizeLine) (h : ∀ s', Inv X pins σ H s' → Q .none s') :
    wpAny (model X.prog X.w) A (call (.builtin initId) (.ref a :: us)) Q E s := by
  obtain ⟨nm, q, N, bs, bm, sn, sub, ab, col, dd, k0, k1, k2, k3, k5, hC, hbm⟩ := O.cls
  obtain ⟨t1, ho⟩ := exo_at I.hok e
  obtain ⟨hp, g, d, t, os⟩ := s
  refine wpAny_call (PySem.HandSPX.init_base G (fun Y => hbm.con Y) (I.kIn _ _ hC) ho hl fun h' t2 k hx => ?_)
  have J := I.write (t' := t) (x := a) (e := a) (o := exo a C none) (by rw [e]; exact True.intro) (.inl rfl) k ⟨_, hx⟩ (exo_ok hx)
  have eu : upd H a (exo a C none) = H := by
    funext b
    by_cases hb : b = a
    · rw [hb, upd_same, e]
    · rw [upd_ne hb]
  rw [eu] at J
  exact h _ J
end

/-! readings and rules -/
/-- Base.__init__(self, ..), Base an own class -/
def tBI (K : PySem.W.Frag) (T : List Value) (newId : String) (ta : TA) : TE := fun σ H Q => ta σ H fun vs H1 => ∃ (a C : Addr) (ws : List V), vs = .ref a :: ws ∧ ws.length ≤ 1000 ∧ Ow K C T newId ∧ H1 a = some (exo a C none) ∧ Q .non H1
/-- self.f = e -/
def tFldX (K : PySem.W.Frag) (T : List Value) (newId : String) (f : Str) (to te : TE) : TS := fun D σ H => te σ H fun y H1 => to σ H1 fun x H2 => ∃ a C : Addr, x = .ref a ∧ Ow K C T newId ∧ PySem.W.findIn K (.ref C) f = some none ∧
  ((H2 a = some (exo a C none) ∧ ∀ dx, H2 dx = none → dx ≠ a → D.nx σ (upd (upd H2 dx (exd dx [(f, y)])) a (exo a C (some dx)))) ∨
    ∃ (dx : Addr) (fs : List (Str × V)), H2 a = some (exo a C (some dx)) ∧ H2 dx = some (exd dx fs) ∧ fs.length ≤ 900 ∧ D.nx σ (upd H2 dx (exd dx ((f, y) :: fs))))
/-- what an own base class says of its __init__ -/
structure BaseC (K : PySem.W.Frag) (C0 : Addr) (initId : String) : Prop where
  ga : PySem.W.specialIn K (.ref C0) "__getattribute__" = some (some (.builtin "type.__getattribute__"))
  rd : PySem.W.readsIn K C0 (.type "type") = true
  fd : PySem.W.findCls K (.ref C0) (.type "type") "__init__" = some (.val (.builtin initId))
  hi : PySem.W.handedIn (.builtin initId) = true
section
variable {X : Cx} {o e : Expr} {es : List Expr} {to te : TE} {ta : TA} {f : Str} {p p' p1 p2 pos : Pos} {T : List Value} {B newId initId : String}
theorem pe_binit {C0 : Addr} {x : Str} {pl : Sem Bool} (G : ExcBaseFacts B newId initId T) (hg : Gl X x) (hm : X.mg x = some (.ref C0)) (b : BaseC X.K C0 initId) (ha : PA X (e :: es) ta)
    (hdb : (x == ("__debug__" : Str)) = false := by decide)
    (hc : eval (.Call (.Attribute (.Name x p1) "__init__" p2) (e :: es) [] pos) X.env = (do
      let ov ← eval (.Name x p1) X.env
      standAt p2.atName
      let (f, first) ← holding [ov] (getMethod ov "__init__" pl)
      callWith pos f first (backTo pos (starEach (e :: es) X.env)) (backToKw pos (keywordEach [] X.env))) := by rfl)
    (he : starEach (e :: es) X.env = (false, eval e X.env) :: starEach es X.env := by rfl) (hpl : (backTo pos (starEach es X.env)).any (·.1) = false := by rfl) :
    PE X (.Call (.Attribute (.Name x p1) "__init__" p2) (e :: es) [] pos) (tBI X.K T newId ta) := by
  refine ⟨fun pins s σ H Q I h => ?_⟩
  refine PySem.W.methodCall_KW (ld_glob I hg hm ?_ hdb) hc
  refine PySem.W.method_cls I.kIn b.ga (PySem.W.cls_value I.kIn b.rd b.fd b.hi ?_)
  show wpAny _ _ (callWith pos (Value.builtin initId) [] (backTo pos (starEach (e :: es) X.env)) []) _ _ _
  refine PyProof.Rows.callWith_method1 (thn (ha.run pos pins _ σ H _ (I.tok _) h) fun us s1 ⟨vs, H1, I1, r1, a, C, ws, ev, hl, O, ea, q⟩ => ?_) he hpl
  subst ev
  cases r1 with
  | @cons _ u0 _ ur ra rw' =>
    obtain rfl : u0 = Value.ref a := ra
    have hlen : ur.length ≤ sizeLine := by
      rw [← Paired.length rw', sizeLine_eq]
      omega
    exact base_init G O I1 ea hlen fun s' J => ⟨.non, H1, J, rfl, q⟩
theorem ps_fldX (F : ChF T) (ho : PE X o to) (he : PE X e te) (hs : swapsWith e (some (.Attribute o f p')) pos.line X.env = pure false := by rfl) : PS X (.Assign [.Attribute o f p'] e pos) (tFldX X.K T newId f to te) := by
  refine ⟨fun pins s σ H D I h => ?_⟩
  refine plainObj_wpAny_Assign_Attribute (thn (he.run pins s σ H _ I h) fun v s1 ⟨y, H1, I1, r1, q1⟩ => thn (ho.run pins s1 σ H1 _ I1 q1) fun u s2 ⟨x, H2, I2, r2, a, C, ex, O, hno, q⟩ => ?_) hs
  subst ex
  obtain rfl : u = Value.ref a := r2
  rcases q with ⟨ea, q⟩ | ⟨dx, fs, ea, ed, hl, q⟩
  · exact fld_new F O I2 ea hno r1 fun dx s' n ne J => ⟨σ, _, J, q dx n ne⟩
  · exact fld_more F O I2 ea ed hl hno r1 fun s' J => ⟨σ, _, J, q⟩
/-- C(e, ..), C's own __init__ keeping sp -/
theorem pmk_ownX {CX : CXT} {x : Str} {C fI : Addr} {k : Nat} {fd : FuncData} {ps : List Str} {sp : Sp} {ds : List Value} {dvs : List V} (G : ExcBaseFacts B newId initId T) (O : Ow X.K C T newId) (iC : PySem.W.findIn X.K (.ref C) "__init__" = some (some (.ref fI))) (tI : PySem.W.typeIn X.K (.ref fI) = some (.type "function"))
    (F1 : FnOk X.prog X.w X.K X.mg X.base CX k fI fd ps sp) (hr : Room (k + 1) X.A) (hb : Binds X.K fd ps ds) (hd : Vals dvs ds) (hx : Passes CX X (fun _ _ _ => False)) (hg : Gl X x) (hm : X.mg x = some (.ref C)) (ha : PA X (e :: es) ta)
    (hdb : (x == ("__debug__" : Str)) = false := by decide) (he : starEach (e :: es) X.env = (false, eval e X.env) :: starEach es X.env := by rfl) (hpl : (backTo pos (starEach es X.env)).any (·.1) = false := by rfl) :
    PMk X (.Call (.Name x p) (e :: es) [] pos) (tMkO C sp dvs ta) := by
  intro pins s σ H Q I h
  obtain ⟨nm, q, N, bs, bm, sn, sub, ab, col, dd, k0, k1, k2, k3, k5, hC, hbm⟩ := O.cls
  refine wpAny_Call_Name_kw (ld_glob I hg hm ?_ hdb)
  refine PySem.W.callWith_K (h₀ := X.base) I.ok.mod.kin O.kC (thn (ha.run pos pins s σ H _ I h) fun us s1 ⟨vs, H1, I1, r1, hz, q1⟩ => ⟨I1.kIn, ?_⟩) he hpl
  show wpAny _ _ (call (.ref C) us) _ _ _
  obtain ⟨hp, g, dr, tk, os⟩ := s1
  have hsz : hp.objs.size ≤ hp.objs.size + 1 := Nat.le_succ _
  have hn : H1 (hp.objs.size + 1) = none := I1.hok.fresh hsz
  have hq := q1 (hp.objs.size + 1) hn
  have kk : ∀ b o, hp.get? b = some o → ((hp.push (PySem.W.kdv_tup us)).push (PySem.HandSPX.excO C hp.objs.size)).get? b = some o := fun b o e => Heap.get?_push_of_some _ (Heap.get?_push_of_some _ e)
  have hget : ((hp.push (PySem.W.kdv_tup us)).push (PySem.HandSPX.excO C hp.objs.size)).get? (hp.objs.size + 1) = some (PySem.HandSPX.excO C hp.objs.size) := by heap_get
  have I2 : Inv X pins σ (upd H1 (hp.objs.size + 1) (exo (hp.objs.size + 1) C none)) ⟨(hp.push (PySem.W.kdv_tup us)).push (PySem.HandSPX.excO C hp.objs.size), g, dr, tk, os⟩ :=
    I1.laid (t' := tk) (a := hp.objs.size + 1) (o := exo (hp.objs.size + 1) C none) (h' := (hp.push (PySem.W.kdv_tup us)).push (PySem.HandSPX.excO C hp.objs.size)) kk hsz (exo_ok hget)
  have r2 : Vals (V.ref (hp.objs.size + 1) :: (vs ++ dvs)) (Value.ref (hp.objs.size + 1) :: (us ++ ds)) := .cons rfl (r1.append hd)
  have hl : (Value.ref (hp.objs.size + 1) :: us ++ ds).length = ps.length := by
    have e := r2.length
    rw [F1.len _ _ _ _ hq] at e
    exact e.symm
  have hus : us.length ≤ sizeLine := by
    rw [← Paired.length r1, sizeLine_eq]
    omega
  refine wpAny_call (PySem.HandSPX.call_own G (fun Y => hbm.con Y) (I1.kIn _ _ hC) (PySem.W.looks_findIn I1.kIn iC) (fun self => PySem.W.bind_fn I1.kIn self tI) hus
    (codeAny_mono (F1.run _ X.stack _ _ ⟨Value.ref (hp.objs.size + 1) :: us, []⟩ (Value.ref (hp.objs.size + 1) :: (us ++ ds)) _ _ (fun _ _ _ => False) (hr.make C us []) (I2.env0.make C us []) (hb _ (Value.ref (hp.objs.size + 1) :: us) I2.kIn hl) r2 hq) fun r s' hq' => ?_))
  cases r with
  | error er => exact hx pins σ _ _ er s' I2 hq'
  | ok fl =>
    cases fl with
    | ret u =>
      obtain ⟨v, H2, os2, bare2, un2, hok2, rv, ev, d, fs, ea, ed, hd1, q2⟩ := hq'
      subst ev
      obtain ⟨h2, g2, d2, t2, os'⟩ := s'
      exact ⟨rv, mk_end (raises_own O.exC O.tyC) I1 hsz kk un2 hok2 os2 bare2 ea ed hd1 q2⟩
    | next => exact False.elim hq'
    | brk => exact False.elim hq'
    | cont => exact False.elim hq'
end
end L2
/-! DLz: enumerate of tuples and lists in loops -/
namespace PySem
open Sem (wp)
open AutoSeq1 (wpAny_loadPart')
theorem meets_enumT (l : Addr) (items : Array Value) (n : Nat) (dct : Option Addr) (sl : Array (Option Value)) :
    Meets (Builtin.«enumerate.__new__» ⟨[.type "enumerate", .ref l], []⟩) (fun _ R s => s.heap.get? l = some { cls := .type "tuple", dict := dct, data := .seq items n, slots := sl } ∧
      R (.ok (.ret (.ref (s.heap.push { cls := .type "tuple_iterator", data := .fields #[.ref l, .int 0 0] }).objs.size)))
        { s with heap := (s.heap.push { cls := .type "tuple_iterator", data := .fields #[.ref l, .int 0 0] }).push { cls := .type "enumerate", data := .fields #[.none, .bool false, .ref s.heap.objs.size, rawInt 0, .none, .none] } }) :=
  .of_wp fun prog w A R s h => by
    obtain ⟨hp, g, d, tk, os⟩ := s; obtain ⟨hl, h⟩ := h
    have hsub := sub_enumerate
    have hL : Heap.IsTuple (Shared.heap ⟨hp, g, d, tk, os⟩) l items := ⟨_, hl, rfl, n, rfl⟩
    wp_walk using wpAny_loadPart' hl
    refine wpAny_stack_any fun st => wpAny_pure ?_
    split
    · rename_i c _ _ _ _ _
      cases (c == Value.type "enumerate")
      · wp_walk using wpAny_loadPart' hl, wpAny_pyIter_tuple hL
        exact ⟨_, rfl, h⟩
      · wp_walk using wpAny_loadPart' hl, wpAny_pyIter_tuple hL
        exact ⟨_, rfl, h⟩
    · wp_walk using wpAny_loadPart' hl, wpAny_pyIter_tuple hL
      exact ⟨_, rfl, h⟩
section
variable {prog : Program} {w : World} {A : Around} {E : Value → Shared → Prop} {s : Shared}
theorem call_enumT {l : Addr} {items : Array Value} {Q : Value → Shared → Prop} (hL : s.heap.IsTuple l items)
    (h : ∀ h', IsEnum h' (s.heap.objs.size + 1) s.heap.objs.size 0 .none → h'.IsTupleIter s.heap.objs.size l 0 → h'.objs.size = s.heap.objs.size + 2 →
      (∀ b o, s.heap.get? b = some o → h'.get? b = some o) → Q (.ref (s.heap.objs.size + 1)) { s with heap := h' }) :
    wpAny (model prog w) A (call (.type "enumerate") [.ref l]) Q E s := by
  obtain ⟨⟨c, dct, dt, sl⟩, hl, hc, n, hd⟩ := hL
  replace hc : c = .type "tuple" := hc
  replace hd : dt = .seq items n := hd
  subst hc hd
  refine callType_new F.called_enumerate (by decide) (F.typeCall_enumerate_1 _) (F.newCall_enumerate_1 _) (fun obj => F.args_object_init_2 obj _) F.entry_enumerate_new
    (meets_enumT l items n dct sl) ⟨hl, ?_⟩
  have hz : (s.heap.push { cls := .type "tuple_iterator", data := .fields #[.ref l, .int 0 0] }).objs.size = s.heap.objs.size + 1 := Heap.size_push ..
  show _ ∧ _
  rw [hz]
  have he : IsEnum ((s.heap.push { cls := .type "tuple_iterator", data := .fields #[.ref l, .int 0 0] }).push
      { cls := .type "enumerate", data := .fields #[.none, .bool false, .ref s.heap.objs.size, rawInt 0, .none, .none] }) (s.heap.objs.size + 1) s.heap.objs.size 0 .none := by
    have := Heap.get?_push_size (s.heap.push { cls := .type "tuple_iterator", data := .fields #[.ref l, .int 0 0] })
      (o := { cls := .type "enumerate", data := .fields #[.none, .bool false, .ref s.heap.objs.size, rawInt 0, .none, .none] }) rfl
    rw [hz] at this; exact this
  refine ⟨⟨_, he, rfl⟩, h _ he ⟨_, Heap.get?_push_of_some _ (Heap.get?_push_size _ rfl), rfl, rfl⟩ (by rw [Heap.size_push, hz]) fun b o x => Heap.get?_push_of_some _ (Heap.get?_push_of_some _ x)⟩
end
end PySem
namespace L2
open PySem PySem.Spec PyProof.Rows
/-- the tuple at a as it stands at each turn, each item in a new pair -/
def IteT (K : PySem.W.Frag) (a : Addr) : It :=
  ⟨fun i H => ∃ (xs : List V) (x : V), SqT K H a xs ∧ xs[i]? = some x, fun i H v H' => ∃ T x, v = .ref T ∧ H T = none ∧ H' = upd H T (.tup [.int (i : Nat), x]) ∧ ∀ xs, SqT K H a xs → xs[i]? = some x, fun i H => ∃ xs : List V, SqT K H a xs ∧ xs.length ≤ i⟩
theorem turn_enumT {P : Program} {w : World} {K : PySem.W.Frag} {elts : List Expr} {kk : Nat} {tpos : Pos} (a e it : Addr) :
    Turn P w K (.Tuple elts kk tpos) (IteT K a) [e, it] e (fun i h => (∃ old, IsEnum h e it ((i : Nat) : Int) old) ∧ h.IsTupleIter it a i ∧ e ≠ it ∧ a ≠ it ∧ a ≠ e) where
  mem := by simp
  obj := fun i h st b hb => by
    obtain ⟨⟨old, he⟩, ⟨o, ho, hc, hd⟩, _⟩ := st
    have e' : b = e ∨ b = it := by simpa using hb
    rcases e' with z | z
    · rw [z]; exact ⟨_, he, fun v q => nomatch q⟩
    · rw [z]; exact ⟨o, ho, fun v q => by rw [hd] at q; cases q⟩
  keep := fun i h h' st k => let ⟨⟨old, he⟩, hi, hne⟩ := st; ⟨⟨old, k e (by simp) _ he⟩, hi.at fun o q => k it (by simp) o q, hne⟩
  item := by
    intro X hP hw hK hc i pins s σ H E I hf st hg
    subst hP hw hK
    obtain ⟨⟨old, he⟩, hit, hne, hai, hae⟩ := st
    obtain ⟨xs, x, hq, hx⟩ := hg
    obtain ⟨its, rv, p, hz⟩ := I.tuple hq
    obtain ⟨u, hu, ru⟩ := rv.get hx
    have hel : e < s.heap.objs.size := Heap.lt_size he
    have hil : it < s.heap.objs.size := by obtain ⟨_, q, _⟩ := hit; exact Heap.lt_size q
    have hlt : i < its.toArray.size := by
      rw [List.size_toArray]
      exact (List.getElem?_eq_some_iff.mp hu).1
    refine wpAny_pyNext_enum_itemD (Draws.tuple (prog := X.prog) (w := X.w) (A := X.A.in1) (show X.A.in1.handled = none from I.ok.hd hc) it a hai its.toArray) he ⟨hit, p⟩ hlt hne (by simp [hne, Ne.symm hae]) fun x' h' tk hPx ho st' hT hsz hk => ?_
    have ex : x' = u := by
      have : its[i]? = some x' := by simpa using hPx
      rw [hu] at this
      exact (Option.some.inj this).symm
    subst ex
    obtain ⟨hit', p'⟩ := st'
    refine ⟨_, rfl, wpAny_letOwnedTupleGo_enum (s := { s with heap := h', toks := tk + 1 }) ho fun h'' he' sb => ?_⟩
    have hT2 : h''.get? s.heap.objs.size = some { cls := .type "tuple", data := .seq #[.int i tk, x'] } := (sb.2 _ (Nat.ne_of_gt hel)).trans hT
    have new : ObjOk X.prog X.w (upd H s.heap.objs.size (.tup [.int (i : Nat), x])) h'' s.heap.objs.size (.tup [.int (i : Nat), x]) :=
      ⟨by show 2 ≤ sizeLine; decide, [.int i tk, x'], .cons ⟨_, rfl⟩ (.cons ru .nil), ⟨_, hT2, rfl, _, rfl⟩⟩
    have I1 : Inv X pins σ (upd H s.heap.objs.size (.tup [.int (i : Nat), x])) { s with heap := h'', toks := tk + 1 } :=
      I.turnedNew (ch := [e, it]) (fun b ob hb q => (sb.2 b (fun z => hb (by simp [z]))).trans (hk b ob (fun z => hb (by simp [z])) (fun z => hb (by simp [z])) q)) hf (Nat.le_refl _) new
    refine ⟨.ref s.heap.objs.size, _, I1, rfl, ⟨_, x, rfl, I.hok.fresh (Nat.le_refl _), rfl, fun ys hy => by rw [I.tuple_inj hy hq]; exact hx⟩, ⟨⟨x', ?_⟩, hit'.at fun o q => (sb.2 it (Ne.symm hne)).trans q, hne, hai, hae⟩, fun b hb => ?_⟩
    · have e1 : ((i + 1 : Nat) : Int) = (i : Int) + 1 := by omega
      rw [e1]; exact he'
    · have hb' : b < s.heap.objs.size := by
        have e' : b = e ∨ b = it := by simpa using hb
        rcases e' with z | z
        · rw [z]; exact hel
        · rw [z]; exact hil
      rw [upd_ne (Nat.ne_of_lt hb')]
      exact (hf b hb).1
  done := by
    intro X hP hw hK hc i pins s σ H E I hf st hg
    subst hP hw hK
    obtain ⟨⟨old, he⟩, hit, hne, hai, hae⟩ := st
    obtain ⟨xs, hq, hx⟩ := hg
    obtain ⟨its, rv, p, hz⟩ := I.tuple hq
    obtain ⟨f0, f1, f2, f3, f4, f5⟩ := hf it (by simp)
    have hl := rv.length
    have hT : s.TypeIs (.ref e) "enumerate" := ⟨_, he, rfl⟩
    unfold pyNext
    refine wpAny_bind (wpAny_attempt (wpAny_callSpecial?_slot (name := Str.ofString "__next__") hT F.slot_enumerate_next
      (wpAny_call_entry F.slot_enumerate_next hT F.entry_enumerate_next ?_ (F.args_enumerate_next_1 _))))
    show wpAny _ _ (field (.ref e) 2 >>= _) _ _ _
    refine wpAny_bind (wpAny_field he rfl (x := .ref it) rfl ?_)
    refine wpAny_bind (wpAny_nextOf_tuple_end (I.ok.hd hc) hit p (by simp; omega) fun h' x he' hx' => ?_)
    obtain ⟨o, ho, hcc⟩ := hx'
    refine wpAny_bind (wpAny_isInstance (T := "StopIteration") (b := true) ⟨o, ho, hcc⟩ isSubtype_stop ?_)
    exact wpAny_pure ⟨rfl, I.turned (t' := s.toks) (fun b o hb q => he' b o hb q) f0 f1 f3 f4 f5⟩
  self := fun A i s Q E st h => let ⟨⟨_, he⟩, _⟩ := st; wpAny_pyIter_enum he h
def iEnumA (K : PySem.W.Frag) (ta : TA) : TI := fun σ H R => ta σ H fun vs H1 => ∃ a xs, vs = [.ref a] ∧ ((SqL K H1 a xs ∧ R (Ite K a) H1) ∨ (SqT K H1 a xs ∧ R (IteT K a) H1))
theorem pi_enumA {X : Cx} {e : Expr} {ta : TA} {p pos tpos : Pos} {elts : List Expr} {kk : Nat} (hg : Gl X "enumerate") (hm : X.mg "enumerate" = none) (ha : PA X [e] ta) (hs : starEach [e] X.env = [(false, eval e X.env)] := by rfl) :
    PI X (.Tuple elts kk tpos) (.Call (.Name "enumerate" p) [e] [] pos) (iEnumA X.K ta) := by
  refine ⟨fun pins s σ H R I h => ?_⟩
  refine Call_ (ld_blt I hg hm PyProof.Rows.boot_enumerate (PyProof.Rows.callWith_type1 (thn (ha.run pos pins s σ H _ I h) fun us s1 ⟨vs, H1, I1, r1, q1⟩ => ?_) hs rfl))
  obtain ⟨a, xs, ex, q1⟩ := q1
  subst ex
  cases r1 with
  | cons r rr =>
    cases rr
    cases r
    have fresh2 : ∀ b, b ∈ [s1.heap.objs.size + 1, s1.heap.objs.size] → FpOk X pins H1 b := fun b hb => by
      have e' : b = s1.heap.objs.size + 1 ∨ b = s1.heap.objs.size := by simpa using hb
      have hle : s1.heap.objs.size ≤ b := by
        rcases e' with z | z
        · rw [z]; exact Nat.le_add_right _ _
        · rw [z]; exact Nat.le_refl _
      exact I1.fpOk hle (I1.hok.fresh hle)
    rcases q1 with ⟨hq, q⟩ | ⟨hq, q⟩
    · obtain ⟨its, rv, p', hz⟩ := I1.list hq
      refine call_enumerate_list p'.isList fun h' he hit hsz hk => wpAny_pyIter_enum he ?_
      have I2 : Inv X pins σ H1 { s1 with heap := h' } := I1.kept (t' := s1.toks) hk
      exact ⟨s1.heap.objs.size + 1, [s1.heap.objs.size + 1, s1.heap.objs.size], _, _, H1, rfl, I2, turn_enum a (s1.heap.objs.size + 1) s1.heap.objs.size, ⟨⟨.none, he⟩, hit, Nat.succ_ne_self _⟩, fresh2, q⟩
    · obtain ⟨its, rv, p', hz⟩ := I1.tuple hq
      obtain ⟨oa, hoa, _⟩ := id p'
      have hlt : a < s1.heap.objs.size := Heap.lt_size hoa
      refine call_enumT (show s1.heap.IsTuple a its.toArray from p') fun h' he hit hsz hk => wpAny_pyIter_enum he ?_
      have I2 : Inv X pins σ H1 { s1 with heap := h' } := I1.kept (t' := s1.toks) hk
      exact ⟨s1.heap.objs.size + 1, [s1.heap.objs.size + 1, s1.heap.objs.size], _, _, H1, rfl, I2, turn_enumT a (s1.heap.objs.size + 1) s1.heap.objs.size, ⟨⟨.none, he⟩, hit, Nat.succ_ne_self _, Nat.ne_of_lt hlt, Nat.ne_of_lt (Nat.lt_succ_of_lt hlt)⟩, fresh2, q⟩
end L2
namespace L2.DL
open PySem PySem.Spec PyProof.Rows
variable [Tbs]
def enuD (ds : List D) : List D := ds.mapIdx fun (i : Nat) d => D.tup [.int i, d]
theorem enuD_len {ds : List D} : (enuD ds).length = ds.length := by unfold enuD; rw [List.length_mapIdx]
theorem enuD_at {ds : List D} {i : Nat} {d : D} (h : ds[i]? = some d) : (enuD ds)[i]? = some (.tup [.int i, d]) := by unfold enuD; rw [List.getElem?_mapIdx, h]; rfl
section
variable {K : ZK} {H : Hp} {M : MS}
theorem itOk_enumT {a : Addr} {xs : List D} (r1 : Rel K H M (.ref a) (.tup xs)) : ItOk K (IteT K.K a) (enuD xs) H M where
  go := fun K' i H' M' hk hi m e => by
    rw [enuD_len] at hi
    cases e _ _ r1 with
    | tup s ra =>
      obtain ⟨v, q, _⟩ := ra.get (List.getElem?_eq_getElem hi)
      exact ⟨_, v, hk.1 ▸ s, q⟩
  stop := fun K' H' M' hk m e => by
    rw [enuD_len]
    cases e _ _ r1 with
    | tup s ra => exact ⟨_, hk.1 ▸ s, Nat.le_of_eq ra.length⟩
  yld := fun K' i x H' M' H'' hk hi m e y => by
    obtain ⟨T, vx, rfl, hT, rfl, f1⟩ := y
    cases e _ _ r1 with
    | tup s ra =>
      obtain ⟨d1, q1, e1⟩ := ra.getV (f1 _ (hk.1 ▸ s))
      exact ⟨_, enuD_at q1, rel_pair hT m (.int _) e1, relM_new m hT, ext_new m hT⟩
theorem itOk_enumL {a : Addr} {xs : List D} (r1 : Rel K H M (.ref a) (.lst xs)) : ItOk K (Ite K.K a) (enuD xs) H M where
  go := fun K' i H' M' hk hi m e => by
    rw [enuD_len] at hi
    cases e _ _ r1 with
    | lst s ra =>
      obtain ⟨v, q, _⟩ := ra.get (List.getElem?_eq_getElem hi)
      exact ⟨_, v, hk.1 ▸ s.sq, q⟩
  stop := fun K' H' M' hk m e => by
    rw [enuD_len]
    cases e _ _ r1 with
    | lst s ra => exact ⟨_, hk.1 ▸ s.sq, Nat.le_of_eq ra.length⟩
  yld := fun K' i x H' M' H'' hk hi m e y => by
    obtain ⟨T, vx, rfl, hT, rfl, f1⟩ := y
    cases e _ _ r1 with
    | lst s ra =>
      obtain ⟨d1, q1, e1⟩ := ra.getV (f1 _ (hk.1 ▸ s.sq))
      exact ⟨_, enuD_at q1, rel_pair hT m (.int _) e1, relM_new m hT, ext_new m hT⟩
end
def enuR : List D → (List D → MS → Prop) → MS → Prop
  | [.tup xs], R, M => R (enuD xs) M
  | [.lst xs], R, M => R (enuD xs) M
  | _, _, _ => False
def dEnum (t : DTA) : DTI := fun ρ R E M => t ρ (fun ds M1 => enuR ds R M1) E M
section
variable {X : Cx} {W : WX} {a : Expr} {pos : Pos}
theorem di_enum {t : DTA} {pp tpos : Pos} {elts : List Expr} {kk : Nat} (hm : X.mg "enumerate" = none) (ha : DA X W [a] t) (hg : Gl X "enumerate" := by rfl) (hs : starEach [a] X.env = [(false, eval a X.env)] := by rfl) :
    DI X W (.Tuple elts kk tpos) (.Call (.Name "enumerate" pp) [a] [] pos) (dEnum t) :=
  impI (pi_enumA hg hm ha hs) fun σ H Q ⟨z, ρ, M, R, E, hs, hm, h, hc, hE⟩ =>
    ⟨z, ρ, M, _, E, hs, hm, h, fun ds M1 vs H1 h1 m1 r1 e1 => by
      unfold enuR at h1
      split at h1
      · cases r1 with
        | cons x y =>
          cases y
          cases x with
          | tup s ra => exact ⟨_, _, rfl, .inr ⟨s, hc _ _ _ _ h1 m1 e1 (itOk_enumT (.tup s ra))⟩⟩
      · cases r1 with
        | cons x y =>
          cases y
          cases x with
          | lst s ra => exact ⟨_, _, rfl, .inl ⟨s.sq, hc _ _ _ _ h1 m1 e1 (itOk_enumL (.lst s ra))⟩⟩
      · exact h1.elim, hE⟩
end
section
variable {ρ : Sl} {M : MS} {t : DTA} {xs : List D} {R : List D → MS → Prop}
theorem v_enum : dEnum t ρ = fun (R : List D → MS → Prop) E M => t ρ (fun ds M1 => enuR ds R M1) E M := (rfl)
theorem q_enuT : enuR [.tup xs] R M = R (enuD xs) M := (rfl)
theorem q_enuL : enuR [.lst xs] R M = R (enuD xs) M := (rfl)
theorem enuD_map {α : Type} (e : α → D) (ps : List α) : enuD (ps.map e) = ps.mapIdx fun (i : Nat) p => D.tup [.int i, e p] := by
  unfold enuD
  apply List.ext_getElem?
  intro i
  rw [List.getElem?_mapIdx, List.getElem?_map, List.getElem?_mapIdx]
  cases ps[i]? <;> rfl
end
end L2.DL
namespace L2
open PySem PySem.Spec PyProof.Rows
/-- in, not in: of a tuple's data -/
def rInT (K : PySem.W.Frag) (f : Bool → Bool) : R2 := fun x y H Q => ∃ d ds, Dp K H x d ∧ Dp K H y (.tuple ds) ∧ SeqAt.shaped d = true ∧ SeqAt.shaped (.tuple ds) = true ∧ Q (.bl (f (ds.any fun z => PyData.eqv z d))) H
section
variable {X : Cx}
theorem op_inT (hu : X.A.units + 65 < cLine) : OpR X (compareOp .In) (rInT X.K id) := by
  intro pins s σ H x y v u Q I rx ry h
  obtain ⟨d, ds, hd, he, sd, se, q⟩ := h
  obtain ⟨as, r1⟩ := Dp.reads I d x v hd rx
  obtain ⟨bs, r2⟩ := Dp.reads I (.tuple ds) y u he ry
  have cl : PyData.canLayAll0 ds = true := by
    have := SeqAt.canLay_of_shaped se
    simpa [PyData.canLay0] using this
  exact SeqAt.in_tuple_reads r2 r1 cl (SeqAt.canLay_of_shaped sd) (room_in_shaped sd hu) ⟨.bl _, H, I, rfl, q⟩
theorem op_notInT (hu : X.A.units + 65 < cLine) : OpR X (compareOp .NotIn) (rInT X.K fun k => !k) := by
  intro pins s σ H x y v u Q I rx ry h
  obtain ⟨d, ds, hd, he, sd, se, q⟩ := h
  obtain ⟨as, r1⟩ := Dp.reads I d x v hd rx
  obtain ⟨bs, r2⟩ := Dp.reads I (.tuple ds) y u he ry
  have cl : PyData.canLayAll0 ds = true := by
    have := SeqAt.canLay_of_shaped se
    simpa [PyData.canLay0] using this
  exact SeqAt.notIn_tuple_reads r2 r1 cl (SeqAt.canLay_of_shaped sd) (room_in_shaped sd hu) ⟨.bl _, H, I, rfl, q⟩
end
end L2
namespace L2.DL
open PySem PySem.Spec PyProof.Rows
variable [Tbs]
def inTG (f : Bool → Bool) : D → D → PD → MS → Prop
  | x, .tup es, R, M => ∃ e, Sees M x e ∧ isP e = true ∧ isPs es = true ∧ SeqAt.shaped (pd e) = true ∧ SeqAt.shaped (pd (.tup es)) = true ∧ R (.bl (f ((pds es).any fun z => PyData.eqv z (pd e)))) M
  | _, _, _, _ => False
def inTD : D → D → PD → MS → Prop := inTG id
def notInTD : D → D → PD → MS → Prop := inTG fun k => !k
theorem o_inT {X : Cx} (hu : X.A.units + 65 < cLine) : OpD X (compareOp .In) inTD := by
  refine ⟨_, op_inT hu, fun z H M x y vx vy R Q m rx ry h hc => ?_⟩
  unfold inTD inTG at h
  split at h
  · obtain ⟨e, sx, px, py, hx, hy, q⟩ := h
    exact ⟨_, _, dp_sees m sx px rx, dp_of (.tup _) _ py ry, hx, hy, hc.here q m (.bl _)⟩
  · exact h.elim
theorem o_notinT {X : Cx} (hu : X.A.units + 65 < cLine) : OpD X (compareOp .NotIn) notInTD := by
  refine ⟨_, op_notInT hu, fun z H M x y vx vy R Q m rx ry h hc => ?_⟩
  unfold notInTD inTG at h
  split at h
  · obtain ⟨e, sx, px, py, hx, hy, q⟩ := h
    exact ⟨_, _, dp_sees m sx px rx, dp_of (.tup _) _ py ry, hx, hy, hc.here q m (.bl _)⟩
  · exact h.elim
end L2.DL
/-! DLza: t[::k] of a tuple, k one or minus one as it is told -/
namespace L2.DL
open PySem PySem.Spec PyProof.Rows
variable [Tbs]
section
variable {prog : Program} {w : World} {A : Around} {E : Value → Shared → Prop} {s : Shared}
theorem one_places (n : Nat) : Builtin.Slice.slicePlaces 0 (n : Int) 1 = n := by
  unfold Builtin.Slice.slicePlaces
  have h1 : (1 : Int) > 0 := by omega
  simp only [h1, if_true]
  split
  · rw [Int.ediv_one]; omega
  · omega
theorem getItem_one {t sl : Addr} {items : Array Value} {vl vu vk : Value} {Q : Value → Shared → Prop} (ht : IsTup s.heap t items) (hs : s.heap.IsSliceOf sl vl vu vk) (pl : IsPart vl none) (pu : IsPart vu none) (pk : IsPart vk (some 1))
    (h : Q (.ref t) s) (hsz : items.size ≤ sizeLine) : wpAny (model prog w) A (getItem (.ref t) (.ref sl)) Q E s := by
  obtain ⟨os, hos, hcs, hds⟩ := id hs
  have hTs : s.TypeIs (.ref sl) "slice" := ⟨os, hos, hcs⟩
  have sa : ∀ {Q : Int × Int × Nat → Shared → Prop}, Q ((0 : Int), 1, items.size) s → wpAny (model prog w) A.in1 (Builtin.Slice.sliceApplied (.ref sl) (pure (items.size : Int))) Q E s := fun {Q} h => by
    unfold Builtin.Slice.sliceApplied Builtin.Slice.sliceFields
    refine wpAny_bind (wpAny_bind (wpAny_field hos hds (x := vl) rfl (wpAny_bind (wpAny_field hos hds (x := vu) rfl (wpAny_bind (wpAny_field hos hds (x := vk) rfl (wpAny_pure ?_)))))))
    refine wpAny_bind (HT.slicePart_ pk ?_)
    show wpAny _ _ (if ((1 : Int) == 0) = true then _ else _) _ _ s
    rw [if_neg (by decide)]
    refine wpAny_bind (HT.slicePart_ pl (wpAny_bind (HT.slicePart_ pu (wpAny_bind (wpAny_pure ?_)))))
    show wpAny _ _ (pure ((0 : Int), (1 : Int), Builtin.Slice.slicePlaces 0 (items.size : Int) 1)) _ _ s
    rw [one_places]
    exact wpAny_pure h
  unfold getItem
  try with_reducible refine wpAny_holding ?_
  first | refine wpAny_bind (wpAny_pure ?_) | skip
  refine wpAny_bind (wpAny_sequenceKey ht.typeIs (by decide) ?_)
  refine wpAny_bind (wpAny_callSpecial?_slot (name := Str.ofString "__getitem__") ht.typeIs PyProof.Rows.slot_tuple_getitem
    (wpAny_call_entry PyProof.Rows.slot_tuple_getitem ht.typeIs PyProof.Rows.entry_tuple_getitem ?_ (PyProof.Rows.args_tuple_getitem _ _)))
  show wpAny _ _ (Builtin.Tuple.tupleItemsOf (.ref t) >>= _) _ _ s
  refine wpAny_bind (PyProof.Rows.tupleItemsOf_ ht ?_)
  refine wpAny_bind (wpAny_typeOf hTs ?_)
  rw [if_pos (by decide)]
  refine wpAny_bind (sa ?_)
  show wpAny _ _ (if ((0 : Int) == 0 && (1 : Int) == 1 && items.size == items.size) = true then _ else _) _ _ s
  rw [if_pos (by simp)]
  refine wpAny_bind ?_
  unfold Builtin.Tuple.tupleIsExact
  first
    | refine wpAny_bind (wpAny_typeOf ht.typeIs (wpAny_pure ?_))
    | refine wpAny_typeOf ht.typeIs ?_
    | refine wpAny_bind (wpAny_typeOf ht.typeIs ?_)
  rw [if_pos (by decide)]
  exact wpAny_bind (wpAny_rule (wpAny_pure ⟨_, rfl, wpAny_pure h⟩))
end
section
variable {X : Cx}
def tStepA (K : PySem.W.Frag) (te ts : TE) : TE := fun σ H Q => te σ H fun x H1 => ts σ H1 fun y H2 => ∃ a xs k, x = .ref a ∧ y = .int k ∧ SqT K H2 a xs ∧ ((k = 1 ∧ Q (.ref a) H2) ∨ (k = -1 ∧ ∀ p, H2 p = none → Q (.ref p) (upd H2 p (.tup xs.reverse))))
theorem pe_stepA {e st : Expr} {te ts : TE} {p3 pos : Pos} (he : PE X e te) (hs : PE X st ts) : PE X (.Subscript e (.Slice none none (some st) p3) pos) (tStepA X.K te ts) := by
  refine ⟨fun pins s σ H Q I h => ?_⟩
  refine Subscript_ (thn (he.run pins s σ H _ I h) fun v s1 ⟨x, H1, I1, r1, hq⟩ => ?_)
  have hst : PO X (some st) (tPart ts) := po_some hs
  have hm3 : ∀ (t : TE) H0, t σ H0 (fun y H2 => ∃ a xs k, x = .ref a ∧ y = .int k ∧ SqT X.K H2 a xs ∧ ((k = 1 ∧ Q (.ref a) H2) ∨ (k = -1 ∧ ∀ p, H2 p = none → Q (.ref p) (upd H2 p (.tup xs.reverse))))) →
      t σ H0 (fun y H2 => ∃ i, y = .int i ∧ ∃ a xs k, x = .ref a ∧ some i = some k ∧ SqT X.K H2 a xs ∧ ((k = 1 ∧ Q (.ref a) H2) ∨ (k = -1 ∧ ∀ p, H2 p = none → Q (.ref p) (upd H2 p (.tup xs.reverse))))) := fun t H0 h => by
    have e : (fun (y : V) (H2 : Hp) => ∃ a xs k, x = V.ref a ∧ y = V.int k ∧ SqT X.K H2 a xs ∧ ((k = 1 ∧ Q (.ref a) H2) ∨ (k = -1 ∧ ∀ p, H2 p = none → Q (.ref p) (upd H2 p (.tup xs.reverse))))) = (fun y H2 => ∃ i, y = .int i ∧ ∃ a xs k, x = .ref a ∧ some i = some k ∧ SqT X.K H2 a xs ∧ ((k = 1 ∧ Q (.ref a) H2) ∨ (k = -1 ∧ ∀ p, H2 p = none → Q (.ref p) (upd H2 p (.tup xs.reverse))))) := by
      funext y H2
      apply propext
      constructor
      · rintro ⟨a, xs, k, h1, h2, h3, h4⟩
        exact ⟨k, h2, a, xs, k, h1, rfl, h3, h4⟩
      · rintro ⟨i, h2, a, xs, k, h1, h5, h3, h4⟩
        cases h5
        exact ⟨a, xs, i, h1, h2, h3, h4⟩
    rw [← e]
    exact h
  refine wpAny_Slice (thn (po_none.run pins s1 σ H1 (fun o z2 => o = none ∧ z2 = H1) I1 ⟨rfl, rfl⟩) fun vl s2 ⟨l, H2, I2, pl, el, e2⟩ => ?_)
  subst el e2
  refine thn (po_none.run pins s2 σ H2 (fun o z3 => o = none ∧ z3 = H2) I2 ⟨rfl, rfl⟩) fun vu s3 ⟨u, H3, I3, pu, eu, e3⟩ => ?_
  subst eu e3
  refine thn (hst.run pins s3 σ H3 (fun o z4 => ∃ a xs k, x = .ref a ∧ o = some k ∧ SqT X.K z4 a xs ∧ ((k = 1 ∧ Q (.ref a) z4) ∨ (k = -1 ∧ ∀ p, z4 p = none → Q (.ref p) (upd z4 p (.tup xs.reverse))))) I3 ?_) fun vs s4 ⟨o, H4, I4, ps, a, xs, k, ex, eo, hx, hr⟩ => ?_
  · exact hm3 _ _ hq
  · subst ex eo
    cases r1
    have I5 : Inv X pins σ H4 { s4 with heap := s4.heap.push { cls := .type "slice", data := .fields #[vl, vu, vs] } } := I4.kept (t' := s4.toks) fun b ob q => Heap.get?_push_of_some _ q
    show wpAny (model X.prog X.w) X.A (subscriptTail e (.Slice none none (some st) p3) (.ref a) (.ref s4.heap.objs.size)) (EP X pins σ Q) X.xe { s4 with heap := s4.heap.push { cls := .type "slice", data := .fields #[vl, vu, vs] } }
    obtain ⟨its, r, ht, hz⟩ := I5.tuple hx
    have hlen := r.length
    refine tail_any (ops := [.ref a, .ref s4.heap.objs.size]) ht.typeIs PyProof.Rows.slot_tuple_getitem.lookup ?_ (by with_unfolding_all rfl)
    rcases hr with ⟨rfl, q⟩ | ⟨rfl, q⟩
    · exact getItem_one ht (Heap.IsSliceOf.new _ vl vu vs) pl pu ps ⟨.ref a, _, I5, rfl, q⟩ (by rw [List.size_toArray]; omega)
    · refine getItem_rev ht (Heap.IsSliceOf.new _ vl vu vs) pl pu ps ?_ (by rw [List.size_toArray]; omega)
      refine ⟨.ref _, _, I5.laid (t' := s4.toks) (o := .tup xs.reverse) (fun b ob z => Heap.get?_push_of_some _ z) (Nat.le_refl _) ?_, rfl, q _ (I5.hok.fresh (Nat.le_refl _))⟩
      exact ⟨by rw [List.length_reverse]; exact hz, _, r.reverse, IsTup.new _ _⟩
end
/-! as data -/
def stepD : D → D → PD → MS → Prop
  | .tup ds, .int k, R, M => (k = 1 ∧ R (.tup ds) M) ∨ (k = -1 ∧ R (.tup ds.reverse) M)
  | _, _, _, _ => False
def dStep (te ts : DTE) : DTE := fun ρ R E M => te ρ (fun d M1 => ts ρ (fun k M2 => stepD d k R M2) E M1) E M
theorem de_step {X : Cx} {W : WX} {e st : Expr} {te ts : DTE} {p3 pos : Pos} (he : DE X W e te) (hs : DE X W st ts) : DE X W (.Subscript e (.Slice none none (some st) p3) pos) (dStep te ts) :=
  imp (pe_stepA he hs) fun σ H Q ⟨z, ρ, M, R, E, hs, hm, h, hc, hE⟩ =>
    ⟨z, ρ, M, _, E, hs, hm, h, fun d M1 v H1 h1 m1 r1 e1 => ⟨z, ρ, M1, _, E, hs.ext e1, m1, h1, fun k M2 w H2 h2 m2 r2 e2 => by
      have h2 : stepD d k R M2 := h2
      have r1' := e2 _ _ r1
      unfold stepD at h2
      split at h2
      · cases r2
        cases r1' with
        | tup s ra =>
          refine ⟨_, _, _, rfl, rfl, s, ?_⟩
          rcases h2 with ⟨ek, q⟩ | ⟨ek, q⟩
          · exact .inl ⟨ek, hc _ _ _ _ q m2 (.tup s ra) (e1.trans e2)⟩
          · exact .inr ⟨ek, fun p hp => hc _ _ _ _ q (relM_new m2 hp) (.tup (SqT.of upd_same) ((ext_new m2 hp).all ra.reverse)) ((e1.trans e2).trans (ext_new m2 hp))⟩
      · exact h2.elim, hE.ext e1⟩, hE⟩
section
variable {ρ : Sl} {R : PD} {E : XP} {M : MS} {te ts : DTE}
theorem v_step : dStep te ts ρ R E M = te ρ (fun d M1 => ts ρ (fun k M2 => stepD d k R M2) E M1) E M := (rfl)
end
end L2.DL
/-! DLzb: the law's end with the script's sizes -/
namespace L2.DL
open PySem PySem.Spec PyProof.Rows
variable [Tbs]
def gLawB (g : G) : Prop := ∀ ns : List Int, ns.length ≤ 63 → (∀ k, k ∈ ns → Builtin.Int.intBits k ≤ 1048576) → g [.scr ns] (fun d _ => d = .bl true) (fun _ _ => False) (fun _ => none)
theorem law_endB {P : Program} {w : World} {K : PySem.W.Frag} {mg mb : Str → Option Value} {k : Nat} {fa a : Addr} {fd : FuncData} {x : Str} {g : G} {s₁ : Shared} {vs : List Value} {ns : List Int}
    (KX : K.In s₁.heap) (hns : s₁.heap.Ns mainGlobals mg) (hb : s₁.heap.Ns builtinsNs mb) (hbb : ∀ x : Str, x ≠ "__name__" → mb x = bootBuiltins x) (hlim : s₁.heap.NoLimit) (hg : s₁.gens = #[])
    (ha : s₁.heap.get? a = some { cls := .type "list", data := .seq vs.toArray }) (hi : IntsAre vs ns) (hl : ns.length ≤ 63) (hr : Room k callerA)
    (F : ∀ base : Heap, K.In base → base.Ns mainGlobals mg → FnD P w K mg base k fa fd [x] g) (hbind : ∀ (s : Shared) (u : Value), BindsTo s fd ⟨[u], []⟩ [(x, u)]) (hgl : g [.scr ns] (fun d _ => d = .bl true) (fun _ _ => False) (fun _ => none)) (hT : Tbs.T = []) :
    codeAny (model P w) callerA (.call (.ref fa) ⟨[.ref a], []⟩) (fun r s' => r = .ok (.ret (.bool true)) ∧ OldK s₁.heap s'.heap ∧ s'.os = s₁.os ∧ AllBare s'.gens) s₁ := by
  have hl2 : ns.length ≤ sizeLine := Nat.le_trans hl (by decide)
  have rv := vals_ints hi
  have lv := hi.length
  have main : ∀ H : Hp, Only H → Sc K H a (ns.map V.int) → HOk P w H s₁.heap → (∀ b, H b ≠ none → b = a) → (H a ≠ none → K.lookup a = none) →
      codeAny (model P w) callerA (.call (.ref fa) ⟨[.ref a], []⟩) (fun r s' => r = .ok (.ret (.bool true)) ∧ OldK s₁.heap s'.heap ∧ s'.os = s₁.os ∧ AllBare s'.gens) s₁ := by
    intro H hO hS hok hA hK
    have nd : ∀ {b : Addr} {o : Obj} {es : Array DictEntry} {ep : Nat}, s₁.heap.get? b = some o → o.data = .dict es ep → H b = none := by
      intro b o es ep e d
      by_cases q : H b = none
      · exact q
      · have e' := hA b q
        subst e'
        rw [ha] at e
        cases e
        exact (Data.noConfusion d)
    have toB : ∀ {b : Addr} {o : Obj}, s₁.heap.get? b = some o → H b = none → (hidT s₁.heap H).get? b = some o := fun e n => hidT_get e n
    have nsB : ∀ {b : Addr} {m : Str → Option Value}, s₁.heap.Ns b m → (hidT s₁.heap H).Ns b m := fun {b m} ⟨o, es, ep, e, d, r⟩ => ⟨o, es, ep, toB e (nd e d), d, r⟩
    have kB : K.In (hidT s₁.heap H) := by
      intro b o e
      refine toB (KX b o e) ?_
      by_cases q : H b = none
      · exact q
      · have e' := hA b q
        subst e'
        rw [hK q] at e; cases e
    have md : Mod K mg (hidT s₁.heap H) := ⟨kB, nsB hns, ⟨mb, nsB hb, hbb⟩, let ⟨mc, l1, l2⟩ := hlim; ⟨mc, nsB l1, l2⟩⟩
    have ev : Env0 P w K mg (hidT s₁.heap H) callerA [] s₁ H := ⟨rfl, md, fun b o e => of_hidT e, Nat.le_of_eq (hidT_size _ _), trivial, fun b hb => by simp [frs] at hb, hok, .of_eq hg⟩
    have sp : spD K g [.ref a] H (fun v _ => v = .bl true) (fun _ _ _ => False) := by
      refine ⟨fun _ => none, [.scr ns], fun _ => none, _, _, .cons (.scr hS) .nil, ⟨fun b mo e => by simp at e, fun b ws e => by simp at e, fun p hp => by rw [hT] at hp; cases hp⟩, hgl, ?_, ?_⟩
      · rintro d M' v H' rfl m r e
        cases r
        rfl
      · intro x M' cls d H' f
        exact f.elim
    refine codeAny_mono ((F _ kB (nsB hns)).run callerA [] s₁ H ⟨[.ref a], []⟩ [.ref a] [.ref a] _ _ hr rfl ev (hbind s₁ (.ref a)) (.cons rfl .nil) sp) fun r s' h => ?_
    cases r with
    | error e =>
      obtain ⟨_, _, _, _, _, _, _, _, _, _, _, _, f⟩ := h
      exact f.elim
    | ok fl =>
      cases fl with
      | next => exact h.elim
      | brk => exact h.elim
      | cont => exact h.elim
      | ret u =>
        obtain ⟨v, H', os, bare, un, hok', r', q⟩ := h
        have q' : v = .bl true := q
        subst q'
        obtain rfl : u = Value.bool true := r'
        refine ⟨rfl, OldK.of_keep fun b o e => ?_, os, bare⟩
        by_cases q : H b = none
        · exact un.keep b o e q (by simp [frs]) (by simp)
        · rcases hO b with z | ⟨ob, xs, z⟩
          · exact absurd z q
          · have z2 := un.frzs b ob _ z
            obtain ⟨e1, _⟩ := hok b _ z
            obtain ⟨e2, _⟩ := hok' b _ z2
            rw [e] at e1
            cases e1
            exact e2
  cases hk : K.lookup a with
  | some o =>
    have e := KX a o hk
    rw [ha] at e
    cases e
    exact main (fun _ => none) (fun _ => .inl rfl) (.inr ⟨_, vs.toArray, _, hk, rfl, rfl, rfl, by rw [List.size_toArray, lv]; exact hl2, by simpa using rv⟩) (fun b u z => by simp at z) (fun b z => absurd rfl z) fun z => absurd rfl z
  | none =>
    refine main (fun b => if b = a then some (.frz { cls := .type "list", data := .seq vs.toArray } (.lst (ns.map V.int))) else none) (fun b => ?_) (.inl ⟨{ cls := .type "list", data := .seq vs.toArray }, if_pos rfl⟩) (fun b u z => ?_) (fun b z => ?_) fun _ => hk
    · by_cases hb : b = a
      · exact .inr ⟨_, _, if_pos hb⟩
      · exact .inl (if_neg hb)
    · by_cases hb : b = a
      · subst hb
        have z' := (if_pos rfl).symm.trans z
        cases z'
        exact ⟨ha, by rw [List.length_map]; exact hl2, vs, _, rv, ha⟩
      · have z' := (if_neg hb).symm.trans z
        cases z'
    · by_cases hb : b = a
      · exact hb
      · exact absurd (if_neg hb) z
theorem walkDB {l : PySem.W.OpenLaw} {k : Nat} {q : Program} {loose : List Str} {XP : (Str → Option Value) → Heap → Prop} {YP : World → Heap → Prop} {d : DefRec} {K : Params → PySem.W.Frag} {g : G} {x : Str}
    (hn : l.most = some 63) (hdf : d.params.defaults = []) (hr : Room k callerA) (hY : ∀ (w : World) (h : Heap), YP w h → (K w.params).In h)
    (F : ∀ (w : World) (mg : Str → Option Value) (fa : Addr) (h : Heap), (K w.params).In h → h.Ns mainGlobals mg → mg d.name = some (.ref fa) →
      ∃ fd : FuncData, (∀ (s : Shared) (u : Value), BindsTo s fd ⟨[u], []⟩ [(x, u)]) ∧
        ∀ base : Heap, (K w.params).In base → base.Ns mainGlobals mg → FnD l.prog w (K w.params) mg base k fa fd [x] g) (hgl : gLawB g) (hT : Tbs.T = [] := by rfl) :
    PySem.W.WalkO q loose XP YP l.row.toRowW d [] (fun f vs => PySem.call f vs) := by
  refine Att.attach_callB hn hdf fun w s₀ s₁ mg mb fa o pm cd doc a vs ns G Y ho hd hcd hmg hobj hints hlen hbits hg => ?_
  obtain ⟨fd, hb, hF⟩ := F w mg fa _ (hY w _ Y) G.T.g hmg
  exact law_endB (hY w _ Y) G.T.g G.T.b G.T.builtins G.T.nolimit hg hobj hints hlen hr hF hb (hgl ns hlen hbits) hT
end L2.DL
/-! DLzc: a number of any size times a small one -/
namespace L2.DL
open PySem PySem.Spec PyProof.Rows
variable [Tbs]
def mulSD : D → D → PD → MS → Prop
  | .int i, .int j, R, M => (-(2 ^ 64) < j ∧ j < 2 ^ 64) ∧ R (.int (i * j)) M
  | _, _, _, _ => False
theorem o_mulS {X : Cx} : OpD X (binaryOp .Mult) mulSD := by
  refine ⟨_, L2.op_mul, fun z H M x y vx vy R Q m rx ry h hc => ?_⟩
  unfold mulSD at h
  split at h
  · cases rx; cases ry
    exact ⟨_, _, rfl, rfl, .inr h.1, hc.here h.2 m (.int _)⟩
  · exact h.elim
section
variable {M : MS} {R : PD} {i j : Int}
theorem q_mulS : mulSD (.int i) (.int j) R M = ((-(2 ^ 64) < j ∧ j < 2 ^ 64) ∧ R (.int (i * j)) M) := (rfl)
end
end L2.DL
/-! DLzd: exceptions over data: raise, try, isinstance and fields of the one that is caught -/
namespace L2
open PySem PySem.Spec PyProof.Rows
/-! ### __init__ of one or two fields -/
/-- what __init__ leaves -/
def spI (C : Addr) (ps : List Str) : Sp := fun vs H Q _ => ∃ a ws, vs = V.ref a :: ws ∧ ws.length = ps.length ∧ H a = some (exo a C none) ∧ ∀ dx, H dx = none → dx ≠ a → Q .non (upd (upd H dx (exd dx (ps.zip ws).reverse)) a (exo a C (some dx)))
theorem sp_len {C : Addr} {ps : List Str} : ∀ vs H Q E, spI C ps vs H Q E → vs.length = ("self" :: ps : List Str).length := by
  rintro vs H Q E ⟨a, ws, rfl, h, _⟩
  rw [List.length_cons, List.length_cons, h]
theorem init1 {K : PySem.W.Frag} {C : Addr} {T : List Value} {newId : String} {f : Str} {N : List Str} (O : Ow K C T newId) (hno : PySem.W.findIn K (.ref C) f = some none) {vs : List V} {H : Hp} {Q : VK} {E : XK} (h : spI C [f] vs H Q E) :
    tSeq (tDrop (tBI K T newId (tCons (tVar 0) tNil))) (tFldX K T newId f (tVar 0) (tVar 1)) { nx := fun _ H' => Q .non H', rt := Q } (start ("self" :: f :: N) vs) H := by
  obtain ⟨a, ws, rfl, hl, e, q⟩ := h
  match ws, hl with
  | [w], _ =>
    refine ⟨.ref a, rfl, a, C, [], rfl, by decide, O, e, ?_⟩
    refine ⟨w, rfl, .ref a, rfl, a, C, rfl, O, hno, .inl ⟨e, fun dx n ne => q dx n ne⟩⟩
theorem init2 {K : PySem.W.Frag} {C : Addr} {T : List Value} {newId : String} {f g : Str} {N : List Str} (O : Ow K C T newId) (hno : PySem.W.findIn K (.ref C) f = some none) (hno2 : PySem.W.findIn K (.ref C) g = some none) {vs : List V} {H : Hp} {Q : VK} {E : XK} (h : spI C [f, g] vs H Q E) :
    tSeq (tDrop (tBI K T newId (tCons (tVar 0) tNil))) (tSeq (tFldX K T newId f (tVar 0) (tVar 1)) (tFldX K T newId g (tVar 0) (tVar 2))) { nx := fun _ H' => Q .non H', rt := Q } (start ("self" :: f :: g :: N) vs) H := by
  obtain ⟨a, ws, rfl, hl, e, q⟩ := h
  match ws, hl with
  | [w, u], _ =>
    refine ⟨.ref a, rfl, a, C, [], rfl, by decide, O, e, ?_⟩
    refine ⟨w, rfl, .ref a, rfl, a, C, rfl, O, hno, .inl ⟨e, fun dx n ne => ?_⟩⟩
    refine ⟨u, rfl, .ref a, rfl, a, C, rfl, O, hno2, .inr ⟨dx, [(f, w)], upd_same, by rw [upd_ne ne]; exact upd_same, by show (1 : Nat) ≤ 900; decide, ?_⟩⟩
    have e2 : upd (upd (upd H dx (exd dx [(f, w)])) a (exo a C (some dx))) dx (exd dx [(g, u), (f, w)]) = upd (upd H dx (exd dx [(g, u), (f, w)])) a (exo a C (some dx)) := by
      funext b
      by_cases hb : b = dx
      · subst hb; rw [upd_same, upd_ne ne, upd_same]
      · rw [upd_ne hb]
        by_cases ha : b = a
        · subst ha; rw [upd_same, upd_same]
        · rw [upd_ne ha, upd_ne ha, upd_ne hb, upd_ne hb]
    show Q .non _
    rw [e2]
    exact q dx n ne
/-! ### isinstance of the one that is caught -/
def rIsX (K : PySem.W.Frag) (D a dd : Addr) : List V → Hp → VK → Prop := fun xs H Q => ∃ c, xs = [V.ref a, c] ∧ (∃ fs, H dd = some (.xd fs)) ∧
  ((∃ cv b, (∀ u, RelV c u → u = cv) ∧ PySem.W.kitOne K (.ref D) cv = some b ∧ Q (.bl b) H) ∨
    ∃ p cs cvs b, c = .ref p ∧ H p = some (.tup cs) ∧ (∀ us, Vals cs us → us = cvs) ∧ PySem.W.kitAny K (.ref D) cvs = some b ∧ Q (.bl b) H)
theorem call_isX {X : Cx} {a D dd : Addr} {oe : Obj} {pn : List (Addr × Obj)} (C : ExcC X.K D) (hz : Zc (.ref D) (some dd) oe) (hf : ∃ vs, oe.data = .fields vs) : CallR (X.suite a ((a, oe) :: pn)) (.builtin "isinstance") (rIsX X.K D a dd) := by
  intro pins s σ H xs us Q I r h
  obtain ⟨c, rfl, ⟨fs, ed⟩, h⟩ := h
  cases r with
  | cons rx rr =>
    cases rr with
    | cons rt rr =>
      cases rr
      cases rx
      obtain ⟨hget, _⟩ := I.pin (a, oe) (List.mem_append.mpr (.inl List.mem_cons_self))
      obtain ⟨vs, hv⟩ := hf
      have hx : ObjOk X.prog X.w H s.heap dd (.xd fs) := I.hok dd _ ed
      obtain ⟨mA, hns, hr⟩ := hx
      obtain ⟨od, ho, _⟩ := lookIn_ns hns
      have J : PySem.W.InstAt s.heap a oe D (some od) := ⟨hget, hz.1, by unfold PySem.W.notCls; rw [hv] <;> rfl, by rw [hz.2]; exact ho⟩
      have hcl : (PySem.W.clsIn X.K D).isSome = true := by
        obtain ⟨cd, hc, _⟩ := PySem.W.any_some C.hd
        rw [hc]; rfl
      have Z : PySem.W.KitX X.K (.ref a) (.ref D) (fun h => PySem.W.InstAt h a oe D (some od)) := PySem.W.kitx_exc hcl C.hg C.hk C.hs C.ha C.hn C.ht C.hm
      rcases h with ⟨cv, b, hcv, e, q⟩ | ⟨p, cs, cvs, b, rfl, hp, hcv, e, q⟩
      · have ec := hcv _ rt
        subst ec
        exact PySem.W.kia_one Z I.kIn J e (fun z => nomatch z) fun tk => ⟨.bl b, H, I.kept (t' := tk) fun _ _ z => z, rfl, q⟩
      · cases rt
        have ht : ObjOk X.prog X.w H s.heap p (.tup cs) := I.hok p _ hp
        obtain ⟨hz2, us2, rv, o, eo, ec, n, edd⟩ := ht
        have := hcv _ rv
        subst this
        obtain ⟨oc, od2, odt, osl⟩ := o
        dsimp only at ec edd
        subst ec edd
        exact PySem.W.kia_tup Z I.kIn J eo e (fun z => nomatch z) fun tk => ⟨.bl b, H, I.kept (t' := tk) fun _ _ z => z, rfl, q⟩
end L2

namespace L2.DL
open PySem PySem.Spec PyProof.Rows
variable [Tbs]
/-- an own exception class with an own __init__ of the fields ps -/
structure XInit (P : Program) (w : World) (K : PySem.W.Frag) (mg : Str → Option Value) (base : Heap) (name : Str) (ps : List Str) : Prop where
  ex : ∃ (C fI : Addr) (fd : FuncData) (T : List Value) (B newId initId : String), ExcBaseFacts B newId initId T ∧ Ow K C T newId ∧ mg name = some (.ref C) ∧ PySem.W.nsIn K mainGlobals name = some (some (.ref C)) ∧
    PySem.W.findIn K (.ref C) "__init__" = some (some (.ref fI)) ∧ PySem.W.typeIn K (.ref fI) = some (.type "function") ∧ Binds K fd ("self" :: ps) [] ∧ FnOk P w K mg base (L2.CX P w) 1 fI fd ("self" :: ps) (spI C ps)
section
variable {K : ZK} {H : Hp} {M : MS}
theorem relK_zip : ∀ {ps : List Str} {vs : List V} {ds : List D}, RelA K H M vs ds → RelK K H M (ps.zip vs) (ps.zip ds)
  | [], _, _, _ => by rw [List.zip_nil_left, List.zip_nil_left]; exact .nil
  | _ :: _, _, _, .nil => .nil
  | p :: ps, _, _, .cons a b => .cons a (relK_zip b)
theorem RelK.append {κ : Type} : ∀ {a b : List (κ × V)} {c d : List (κ × D)}, RelK K H M a c → RelK K H M b d → RelK K H M (a ++ b) (c ++ d)
  | _, _, _, _, .nil, s => s
  | _, _, _, _, .cons r t, s => .cons r (RelK.append t s)
theorem RelK.rev {κ : Type} : ∀ {a : List (κ × V)} {c : List (κ × D)}, RelK K H M a c → RelK K H M a.reverse c.reverse
  | _, _, .nil => .nil
  | _, _, .cons r t => by
    rw [List.reverse_cons, List.reverse_cons]
    exact (RelK.rev t).append (.cons r .nil)
theorem RelK.look : ∀ {a : List (Str × V)} {c : List (Str × D)} {f : Str} {d : D}, RelK K H M a c → c.lookup f = some d → ∃ v, a.lookup f = some v ∧ Rel K H M v d
  | _, _, _, _, .nil, e => by cases e
  | _, _, f, d, .cons (k := k) r t, e => by
    rw [List.lookup_cons] at e ⊢
    split at e
    · cases e
      exact ⟨_, rfl, r⟩
    · exact RelK.look t e
end
section
variable {X : Cx} {W : WX} {e : Expr} {es : List Expr} {t : DTA} {name : Str} {ps : List Str} {p pos pos2 : Pos}
/-- raise C(e, ..) -/
def dRaise (name : Str) (ps : List Str) (t : DTA) : DTS := fun De ρ M => t ρ (fun ds M1 => ds.length = ps.length ∧ De.ex ⟨name, (ps.zip ds).reverse⟩ ρ M1) De.ex M
theorem ds_raise (x : XInit X.prog X.w X.K X.mg X.base name ps) (hc : X.calm = true) (hr : Room 2 X.A) (tk : Takes X W) (ha : DA X W (e :: es) t) (hps : ps.length ≤ 900 := by decide) (hg : Gl X name := by rfl)
    (hdb : (name == ("__debug__" : Str)) = false := by decide) (he : starEach (e :: es) X.env = (false, eval e X.env) :: starEach es X.env := by rfl) (hpl : (backTo pos (starEach es X.env)).any (·.1) = false := by rfl) :
    DS X W (.Raise (some (.Call (.Name name p) (e :: es) [] pos)) none pos2) (dRaise name ps t) := by
  obtain ⟨C, fI, fd, T, B, newId, initId, G, O, hm, hns, iC, tI, hb, F1⟩ := x.ex
  refine impS (ps_raise hc tk (pmk_ownX (ds := []) (dvs := []) G O iC tI F1 hr hb .nil (fun _ _ _ _ _ _ _ h => by
    obtain ⟨_, _, _, _, _, _, _, _, _, _, _, _, z⟩ := h
    exact z.elim) hg hm ha hdb he hpl)) fun De σ H ⟨z, ρ, M, Dd, hs, hm2, h, L⟩ => ?_
  refine ⟨z, ρ, M, _, _, hs, hm2, h, fun ds M1 vs H1 h1 m1 r1 e1 => ?_, L.ex⟩
  obtain ⟨hl, hx⟩ := h1
  have hv : vs.length = ps.length := r1.length.trans hl
  refine ⟨by omega, fun a ha => ⟨a, vs ++ [], rfl, by rw [List.append_nil]; exact hv, upd_same, fun dx hdx hne => ⟨rfl, dx, (ps.zip (vs ++ [])).reverse, upd_same, by rw [upd_ne hne]; exact upd_same, ?_, ?_⟩⟩⟩
  · rw [upd_ne hne] at hdx; exact hdx
  · rw [upd_ne hne] at hdx
    have eH : upd (del (upd (upd (upd H1 a (exo a C none)) dx (exd dx (ps.zip (vs ++ [])).reverse)) a (exo a C (some dx))) a) dx (.xd (ps.zip (vs ++ [])).reverse) = upd H1 dx (.xd (ps.zip (vs ++ [])).reverse) := by
      funext b
      by_cases hb : b = dx
      · subst hb; rw [upd_same, upd_same]
      · rw [upd_ne hb, upd_ne hb]
        by_cases hba : b = a
        · subst hba; rw [del_same, ha]
        · rw [del_ne hba, upd_ne hba, upd_ne hb, upd_ne hba]
    rw [eH, List.append_nil]
    exact L.ex _ ρ M1 _ _ _ _ hx (relM_new m1 hdx) (hs.ext (e1.trans (ext_new m1 hdx))) ⟨⟨C, rfl, hns⟩, dx, _, rfl, upd_same, m1.free hdx, ((ext_new m1 hdx).keys (relK_zip r1)).rev⟩ (e1.trans (ext_new m1 hdx))
end

/-- what the suite of an except clause says: C the class that came, a the exception, dx its dict -/
abbrev DTX := Str → Addr → Addr → DTS
def dTry (i : Nat) (Ds : List Str) (catches : Str → Bool) (t : DTS) (ts : DTX) : DTS := fun De ρ M =>
  t { nx := De.nx, rt := De.rt, bk := De.bk, ct := De.ct,
      ex := fun x ρ' M' => x.C ∈ Ds ∧ if catches x.C = true then ∀ a dx, M' a = none → M' dx = none → a ≠ dx →
          ts x.C a dx { nx := fun ρ2 M2 => De.nx (ρ2.set i none) M2, rt := De.rt, bk := fun ρ2 M2 => De.bk (ρ2.set i none) M2, ct := fun ρ2 M2 => De.ct (ρ2.set i none) M2 } (ρ'.set i (some (.ref a))) (um M' dx (.xd x.fs))
        else De.ex x ρ' M' } ρ M
theorem ext_xd {K : ZK} {H : Hp} {M : MS} {dx : Addr} {gs : List (Str × V)} {fs : List (Str × D)} (m : RelM K H M) (e : H dx = some (.xd gs)) (n : M dx = none) (r : RelK K H M gs fs) : Ext K H M H (um M dx (.xd fs)) ∧ RelM K H (um M dx (.xd fs)) := by
  have f : FoExt K H M K H (um M dx (.xd fs)) := fun q o ho s => by
    have ne : q ≠ dx := fun z => by
      have h := s.2
      rw [z, e] at h; cases h; cases ho
    exact ⟨⟨by rw [um_ne ne]; exact s.1.1, s.1.2⟩, s.2⟩
  have x : Ext K H M H (um M dx (.xd fs)) := Ext.of (fun _ _ s => s) f fun _ _ s => s
  refine ⟨x, fun a u q => ?_, fun a vs q => ?_, m.tab.mono f⟩
  · by_cases ha : a = dx
    · subst ha
      rw [um_same] at q
      cases q
      exact ⟨gs, e, x.keys r⟩
    · rw [um_ne ha] at q
      exact (m.at' a u q).ext x rfl
  · obtain ⟨q1, q2⟩ := m.hid a vs q
    have ne : a ≠ dx := fun z => by
      rw [z, e] at q2
      have k := vs.2
      rw [← Option.some.inj q2] at k
      cases k
    exact ⟨by rw [um_ne ne]; exact q1, q2⟩
section
variable {X : Cx} {x n : Str} {c : Value} {i : Nat} {body suite : List Stmt} {b₀ : Stmt} {np pos pos' : Pos} {t : DTS} {ts : DTX} {Wout : WX} {Ds : List Str} {catches : Str → Bool}
theorem ds_try (i : Nat) (hN : X.N.Nodup) (hs : X.stack = X.env :: X.outer) (hf : X.env.frame = some X.env.locals) (tk : Takes X Wout) (hc : Names X x c)
    (hex : ∀ C ∈ Ds, ∀ aC, PySem.W.nsIn X.K mainGlobals C = some (some (.ref aC)) → PySem.W.exmOne X.K (.ref aC) c = some (catches C))
    (hb : ∀ (W : WX) (pn : List (Addr × Obj)) (xe : Value → Shared → Prop), Takes (X.tr pn xe) W → PassesOwn (model X.prog X.w) X.A X.env xe → DSs (X.tr pn xe) W body t)
    (hsu : ∀ (C : Str), C ∈ Ds → ∀ (aC a dx : Addr) (oe : Obj) (pn : List (Addr × Obj)), PySem.W.nsIn X.K mainGlobals C = some (some (.ref aC)) → Zc (.ref aC) (some dx) oe → (∃ vs, oe.data = .fields vs) → DSs (X.suite a ((a, oe) :: pn)) W0 (b₀ :: suite) (ts C a dx))
    (hi : X.N[i]? = some n := by rfl) (hln : X.env.kindOf n = some .local := by rfl) :
    DS X Wout (.Try body [.ExceptHandler (some (.Name x np)) (some n) (b₀ :: suite) pos'] [] [] pos) (dTry i Ds catches t ts) := by
  refine impS (ps_try_as (tb := fun W => liftS X.K W t) (ts := fun a cls d De σ H => ∃ C aC dx, C ∈ Ds ∧ cls = .ref aC ∧ PySem.W.nsIn X.K mainGlobals C = some (some (.ref aC)) ∧ d = some dx ∧ liftS X.K W0 (ts C a dx) De σ H) (Wout := Wout) hs hf hN hi hln hc tk hb
    fun a oe cls d pn hz hd => ⟨fun pins s σ H De I h => ?_⟩) fun De σ H h => ?_
  · obtain ⟨C, aC, dx, hC, rfl, hns, rfl, h⟩ := h
    exact (hsu C hC aC a dx oe pn hns hz hd).run pins s σ H De I h
  · obtain ⟨z, ρ, M, Dd, hs2, hm, h, L⟩ := h
    refine ⟨z, ρ, M, _, hs2, hm, h, L.nx, L.rt, L.bk, L.ct, ?_⟩
    rintro y ρ' M' cls d σ' H' ⟨hC, q⟩ m' s' rx e'
    obtain ⟨⟨aC, rfl, hns⟩, dx, gs, rfl, hdx, hMdx, rk⟩ := rx
    refine ⟨catches y.C, hex _ hC aC hns, fun hb1 a ha => ?_, fun hb1 => ?_⟩
    · rw [if_pos hb1] at q
      obtain ⟨e2, m2⟩ := ext_xd m' hdx hMdx rk
      have ne : a ≠ dx := fun w => by rw [w, hdx] at ha; cases ha
      have L2 := L.ext (e'.trans e2)
      refine ⟨y.C, aC, dx, hC, rfl, hns, rfl, z, _, _, _, (s'.ext e2).set i (.ref a), m2, q a dx (m'.free ha) hMdx ne, ?_, L2.rt, ?_, ?_, fun _ _ _ _ _ _ _ w => w.elim⟩
      · exact fun ρ2 M2 σ2 H2 w m s ee => L2.nx _ _ _ _ w m (s.clear i) ee
      · exact fun ρ2 M2 σ2 H2 w m s ee => L2.bk _ _ _ _ w m (s.clear i) ee
      · exact fun ρ2 M2 σ2 H2 w m s ee => L2.ct _ _ _ _ w m (s.clear i) ee
    · rw [if_neg (by rw [hb1]; exact Bool.false_ne_true)] at q
      exact L.ex _ _ _ _ _ _ _ q m' s' ⟨⟨aC, rfl, hns⟩, dx, gs, rfl, hdx, hMdx, rk⟩ e'
end

/-! ### in the suite -/
def vOf : Value → V
  | .ref a => .ref a
  | .type n => .ty n
  | _ => .non
/-- classes by their names -/
inductive TN (X : Cx) : List Expr → List (Str × Value) → Prop
  | nil : TN X [] []
  | cons {x : Str} {u : Value} {pos : Pos} {es : List Expr} {l : List (Str × Value)} (hg : Gl X x) (hm : X.mg x = some u ∨ (X.mg x = none ∧ bootBuiltins x = some u ∧ x ≠ "__name__")) (hu : RelV (vOf u) u) (hd : (x == ("__debug__" : Str)) = false) (r : TN X es l)
      (he : starEach (.Name x pos :: es) X.env = (false, eval (.Name x pos) X.env) :: starEach es X.env) : TN X (.Name x pos :: es) ((x, u) :: l)
theorem tn_pe {X : Cx} {x : Str} {u : Value} {pos : Pos} (hg : Gl X x) (hm : X.mg x = some u ∨ (X.mg x = none ∧ bootBuiltins x = some u ∧ x ≠ "__name__")) (hu : RelV (vOf u) u) (hd : (x == ("__debug__" : Str)) = false) : PE X (.Name x pos) (tC (vOf u)) := by
  rcases hm with hm | ⟨hm, hv, hn⟩
  · exact pe_glob hg hm hu hd
  · exact pe_bltn hg hm hv hu hn hd
def tNames (vs : List V) : TA := fun _ H Q => Q vs H
theorem TN.pa {X : Cx} : ∀ {es : List Expr} {l : List (Str × Value)}, TN X es l → PA X es (tNames (l.map fun y => vOf y.2))
  | _, _, .nil => ⟨fun pos pins s σ H Q I h => pa_nil.run pos pins s σ H Q I h⟩
  | _, _, .cons hg hm hu hd r he => ⟨fun pos pins s σ H Q I h => (pa_cons (tn_pe hg hm hu hd) (TN.pa r) he).run pos pins s σ H Q I h⟩
theorem vOf_one {u v : Value} (h : RelV (vOf u) u) (k : RelV (vOf u) v) : v = u := by
  cases u with
  | ref a => cases k; rfl
  | type n => cases k; rfl
  | none => cases k; rfl
  | _ => cases h
theorem TN.rel {X : Cx} : ∀ {es : List Expr} {l : List (Str × Value)}, TN X es l → ∀ us, Vals (l.map fun y => vOf y.2) us → us = l.map (·.2)
  | _, _, .nil, us, h => by cases h; rfl
  | _, _, .cons hg hm hu hd r he, us, h => by
    cases h with
    | cons a b => rw [TN.rel r _ b, vOf_one hu a]; rfl
section
variable {X : Cx} {W : WX} {a dx aC : Addr} {oe : Obj} {pn : List (Addr × Obj)} {C x n : Str} {i : Nat} {pos p p2 p3 : Pos}
/-- isinstance(e, c), isinstance(e, (c, ..)): b what it says of the class C -/
def dIsX (a dx : Addr) (b : Bool) (i : Nat) : DTE := fun ρ R _ M => sl ρ i = some (.ref a) ∧ (∃ fs, M dx = some (.xd fs)) ∧ R (.bl b) M
theorem de_isX {b : Bool} {u : Value} (i : Nat) (hm : X.mg "isinstance" = none) (hz : Zc (.ref aC) (some dx) oe) (hf : ∃ vs, oe.data = .fields vs) (E : ExcC X.K aC) (hk : PySem.W.kitOne X.K (.ref aC) u = some b)
    (hx : X.mg x = some u ∨ (X.mg x = none ∧ bootBuiltins x = some u ∧ x ≠ "__name__")) (hu : RelV (vOf u) u) (hg : Gl X x := by rfl) (hd : (x == ("__debug__" : Str)) = false := by decide)
    (hN : X.N[i]? = some n := by rfl) (hv : Vis X.env.scope n := by first | exact Or.inl rfl | exact Or.inr (Or.inl rfl) | exact Or.inr (Or.inr rfl)) (hgi : Gl X "isinstance" := by rfl)
    (hd1 : (n == ("__debug__" : Str)) = false := by decide) (hcd : (n == ("__classdict__" : Str)) = false := by decide) (hb : bootBuiltins "isinstance" = some (.builtin "isinstance") := by exact bt_isinstance)
    (s1 : starEach [.Name n p2, .Name x p3] X.env = (false, eval (.Name n p2) X.env) :: starEach [.Name x p3] X.env := by rfl) (s2 : starEach [.Name x p3] X.env = (false, eval (.Name x p3) X.env) :: starEach [] X.env := by rfl) (hpl : (backTo pos (starEach [.Name x p3] X.env)).any (·.1) = false := by rfl) :
    DE (X.suite a ((a, oe) :: pn)) W (.Call (.Name "isinstance" p) [.Name n p2, .Name x p3] [] pos) (dIsX a dx b i) := by
  refine ⟨fun pins s σ H Q I ⟨z, ρ, M, R, _, hs, hm2, ⟨hsl, ⟨fs, hdx⟩, h⟩, hc, _⟩ => ?_⟩
  have pe := pe_callB (X := X.suite a ((a, oe) :: pn)) (p := p) (pos := pos) (call_isX (X := X) (pn := pn) (a := a) E hz hf) hgi hm hb (pa_cons (pe_var (i := i) hN hv hd1 hcd) (pa_cons (tn_pe (X := X.suite a ((a, oe) :: pn)) hg hx hu hd) pa_nil s2) s1) (by decide) (by decide) s1 hpl
  refine pe.run pins s σ H Q I ?_
  obtain ⟨v, e1, r1⟩ := hs.2 i _ (sl_get hsl)
  cases r1
  obtain ⟨gs, eh, _⟩ := hm2.at' _ _ hdx
  exact ⟨_, e1, _, rfl, ⟨gs, eh⟩, .inl ⟨u, b, fun w k => vOf_one hu k, hk, hc.here h hm2 (.bl _)⟩⟩
theorem de_isXT {b : Bool} {es : List Expr} {l : List (Str × Value)} {x1 : Nat} (i : Nat) (hm : X.mg "isinstance" = none) (hz : Zc (.ref aC) (some dx) oe) (hf : ∃ vs, oe.data = .fields vs) (E : ExcC X.K aC) (tn : TN (X.suite a ((a, oe) :: pn)) es l) (hk : PySem.W.kitAny X.K (.ref aC) (l.map (·.2)) = some b)
    (hz1 : l.length ≤ sizeLine := by decide) (hN : X.N[i]? = some n := by rfl) (hv : Vis X.env.scope n := by first | exact Or.inl rfl | exact Or.inr (Or.inl rfl) | exact Or.inr (Or.inr rfl)) (hgi : Gl X "isinstance" := by rfl)
    (hd1 : (n == ("__debug__" : Str)) = false := by decide) (hcd : (n == ("__classdict__" : Str)) = false := by decide) (hb : bootBuiltins "isinstance" = some (.builtin "isinstance") := by exact bt_isinstance)
    (s1 : starEach [.Name n p2, .Tuple es x1 p3] X.env = (false, eval (.Name n p2) X.env) :: starEach [.Tuple es x1 p3] X.env := by rfl) (s2 : starEach [.Tuple es x1 p3] X.env = (false, eval (.Tuple es x1 p3) X.env) :: starEach [] X.env := by rfl) (hpl : (backTo pos (starEach [.Tuple es x1 p3] X.env)).any (·.1) = false := by rfl) :
    DE (X.suite a ((a, oe) :: pn)) W (.Call (.Name "isinstance" p) [.Name n p2, .Tuple es x1 p3] [] pos) (dIsX a dx b i) := by
  refine ⟨fun pins s σ H Q I ⟨z, ρ, M, R, _, hs, hm2, ⟨hsl, ⟨fs, hdx⟩, h⟩, hc, _⟩ => ?_⟩
  have pe := pe_callB (X := X.suite a ((a, oe) :: pn)) (p := p) (pos := pos) (call_isX (X := X) (pn := pn) (a := a) E hz hf) hgi hm hb (pa_cons (pe_var (i := i) hN hv hd1 hcd) (pa_cons (pe_tup tn.pa) pa_nil s2) s1) (by decide) (by decide) s1 hpl
  refine pe.run pins s σ H Q I ?_
  obtain ⟨v, e1, r1⟩ := hs.2 i _ (sl_get hsl)
  cases r1
  obtain ⟨gs, eh, _⟩ := hm2.at' _ _ hdx
  refine ⟨_, e1, by rw [List.length_map]; exact hz1, fun q hq => ⟨_, rfl, ⟨gs, ?_⟩, .inr ⟨q, _, _, b, rfl, upd_same, fun us k => tn.rel us k, hk, ?_⟩⟩⟩
  · rw [upd_ne (ne_of_none eh hq)]; exact eh
  · exact hc _ _ _ _ h (relM_new hm2 hq) (.bl _) (ext_new hm2 hq)
/-- e.f -/
def dFldX (a dx : Addr) (f : Str) (te : DTE) : DTE := fun ρ R E M => te ρ (fun d M1 => d = .ref a ∧ ∃ fs v, M1 dx = some (.xd fs) ∧ fs.lookup f = some v ∧ R v M1) E M
theorem de_fldX {f : Str} {e : Expr} {te : DTE} (T : XfC X.K aC) (hno : PySem.W.findIn X.K (.ref aC) f = some none) (hz : Zc (.ref aC) (some dx) oe) (hf : ∃ vs, oe.data = .fields vs)
    (he : DE (X.suite a ((a, oe) :: pn)) W e te) (hb : attributeBase e f X.env (eval e X.env) = eval e X.env := by rfl) :
    DE (X.suite a ((a, oe) :: pn)) W (.Attribute e f pos) (dFldX a dx f te) :=
  imp (pe_xf (X := X) (pn := pn) (pos := pos) T hno hz hf he hb) fun σ H Q ⟨z, ρ, M, R, E, hs, hm, h, hc, hE⟩ =>
    ⟨z, ρ, M, _, E, hs, hm, h, fun d M1 v H1 h1 m1 r1 e1 => by
      obtain ⟨rfl, fs, y, hd, hl, q⟩ := h1
      cases r1
      obtain ⟨gs, eh, rk⟩ := m1.at' _ _ hd
      obtain ⟨w, el, rw⟩ := rk.look hl
      exact ⟨rfl, rfl, dx, gs, w, rfl, eh, el, hc _ _ _ _ q m1 rw e1⟩, hE⟩
end
/-- a class by its name -/
def cvG (mg : Str → Option Value) (s : Str) : Value := (mg s).getD ((bootBuiltins s).getD .none)
def TnF (mg : Str → Option Value) (T : Str) : Prop := (mg T = some (cvG mg T) ∨ (mg T = none ∧ bootBuiltins T = some (cvG mg T) ∧ T ≠ "__name__")) ∧ RelV (vOf (cvG mg T)) (cvG mg T)
theorem tnF_own {mg : Str → Option Value} {T : Str} {a : Addr} (h : mg T = some (.ref a)) : TnF mg T := by
  have e : cvG mg T = .ref a := by unfold cvG; rw [h]; rfl
  unfold TnF
  rw [e]
  exact ⟨.inl h, rfl⟩
theorem tnF_blt {mg : Str → Option Value} {T : Str} {n : String} (h : mg T = none) (hb : bootBuiltins T = some (.type n)) (hn : T ≠ "__name__") : TnF mg T := by
  have e : cvG mg T = .type n := by unfold cvG; rw [h, hb]; rfl
  unfold TnF
  rw [e]
  exact ⟨.inr ⟨h, hb, hn⟩, rfl⟩
theorem cvG_own {mg : Str → Option Value} {T : Str} {a : Addr} (h : mg T = some (.ref a)) : cvG mg T = .ref a := by unfold cvG; rw [h]; rfl
theorem cvG_blt {mg : Str → Option Value} {T : Str} {v : Value} (h : mg T = none) (hb : bootBuiltins T = some v) : cvG mg T = v := by unfold cvG; rw [h, hb]; rfl
theorem kitAny_nil {K : PySem.W.Frag} {t : Value} {f : Str → Bool} : PySem.W.kitAny K t [] = some (([] : List Str).any f) := rfl
theorem kitAny_cons {K : PySem.W.Frag} {t u : Value} {us : List Value} {f : Str → Bool} {T : Str} {Ts : List Str} (h : PySem.W.kitOne K t u = some (f T)) (r : PySem.W.kitAny K t us = some (Ts.any f)) : PySem.W.kitAny K t (u :: us) = some ((T :: Ts).any f) := by
  rw [List.any_cons]
  unfold PySem.W.kitAny
  rw [h]
  cases e : f T with
  | true => rfl
  | false => exact r
theorem TnF.names {X : Cx} {T : Str} (h : TnF X.mg T) (hg : Gl X T) (hd : (T == ("__debug__" : Str)) = false) : Names X T (cvG X.mg T) := ⟨hg, hd, h.1⟩
/-- the statements of a class -/
def clsS (s : Stmt) (j : Nat) : Stmt := match s with
  | .ClassDef (body := b) .. => b.getD j (.Pass ⟨0, 0, 0, 0⟩)
  | _ => .Pass ⟨0, 0, 0, 0⟩
theorem v_raise {name : Str} {ps : List Str} {t : DTA} {De : DEnds} {ρ : Sl} {M : MS} : dRaise name ps t De ρ M = t ρ (fun ds M1 => ds.length = ps.length ∧ De.ex ⟨name, (ps.zip ds).reverse⟩ ρ M1) De.ex M := by (rfl)
theorem v_isX {a dx : Addr} {b : Bool} {i : Nat} {ρ : Sl} {R : PD} {E : XP} {M : MS} : dIsX a dx b i ρ R E M = (sl ρ i = some (.ref a) ∧ (∃ fs, M dx = some (.xd fs)) ∧ R (.bl b) M) := by (rfl)
theorem v_fldX {a dx : Addr} {f : Str} {te : DTE} {ρ : Sl} {R : PD} {E : XP} {M : MS} : dFldX a dx f te ρ R E M = te ρ (fun d M1 => d = .ref a ∧ ∃ fs v, M1 dx = some (.xd fs) ∧ fs.lookup f = some v ∧ R v M1) E M := by (rfl)
theorem v_try {i : Nat} {Ds : List Str} {catches : Str → Bool} {t : DTS} {ts : DTX} {De : DEnds} {ρ : Sl} {M : MS} : dTry i Ds catches t ts De ρ M =
  t { nx := De.nx, rt := De.rt, bk := De.bk, ct := De.ct,
      ex := fun x ρ' M' => x.C ∈ Ds ∧ if catches x.C = true then ∀ a dx, M' a = none → M' dx = none → a ≠ dx →
          ts x.C a dx { nx := fun ρ2 M2 => De.nx (ρ2.set i none) M2, rt := De.rt, bk := fun ρ2 M2 => De.bk (ρ2.set i none) M2, ct := fun ρ2 M2 => De.ct (ρ2.set i none) M2 } (ρ'.set i (some (.ref a))) (um M' dx (.xd x.fs))
        else De.ex x ρ' M' } ρ M := by (rfl)
end L2.DL
/-! DLze: list(range(..)); chains of three -/
namespace L2
open PySem PySem.Spec PyProof.Rows
section
variable {X : Cx} {a b c d : Expr} {ta tb tc td : TE} {pos : Pos}
/-- a op1 b op2 c op3 d -/
def tChain3 (r r' r2 : R2) (ta tb tc td : TE) : TE := fun σ H Q => ta σ H fun x H1 => tb σ H1 fun y H2 => r x y H2 fun z H3 => ∃ k, z = .bl k ∧
  (if k = true then tc σ H3 fun w' H4 => r' y w' H4 fun z2 H5 => ∃ k2, z2 = .bl k2 ∧ (if k2 = true then td σ H5 fun u' H6 => r2 w' u' H6 Q else Q (.bl false) H5) else Q (.bl false) H3)
theorem pe_chain3 {op op' op2 : CmpOp} {r r' r2 : R2} (ho : OpR X (compareOp op) r) (ho' : OpR X (compareOp op') r') (ho2 : OpR X (compareOp op2) r2) (ha : PE X a ta) (hb : PE X b tb) (hc : PE X c tc) (hd : PE X d td)
    (hm : lastMarks [op, op', op2] [b, c, d] = false := by with_unfolding_all rfl) : PE X (.Compare a [op, op', op2] [b, c, d] pos) (tChain3 r r' r2 ta tb tc td) := by
  refine ⟨fun pins s σ H Q I h => ?_⟩
  refine Compare_chain (thn (ha.run pins s σ H _ I h) fun v s1 ⟨x, H1, I1, r1, q1⟩ => chain_link (thn (hb.run pins s1 σ H1 _ I1 q1) fun u s2 ⟨y, H2, I2, r2', q2⟩ =>
    thn (ho pins s2 σ H2 x y v u _ I2 r1 r2' q2) fun d' s3 ⟨z, H3, I3, r3, k, e, q3⟩ => ?_)) hm
  subst e
  cases r3
  refine wpAny_truthy_bool ?_
  cases k with
  | false => exact ite_ff ⟨.bl false, H3, I3, rfl, q3⟩
  | true =>
    refine ite_tt (chain_link (thn (hc.run pins s3 σ H3 _ I3 q3) fun w' s4 ⟨z', H4, I4, r4, q4⟩ => thn (ho' pins s4 σ H4 y z' u w' _ I4 r2' r4 q4) fun d2 s5 ⟨z2, H5, I5, r5, k2, e2, q5⟩ => ?_))
    subst e2
    cases r5
    refine wpAny_truthy_bool ?_
    cases k2 with
    | false => exact ite_ff ⟨.bl false, H5, I5, rfl, q5⟩
    | true => exact ite_tt (chain_last (thn (hd.run pins s5 σ H5 _ I5 q5) fun w2 s6 ⟨z6, H6, I6, r6, q6⟩ => ho2 pins s6 σ H6 z' z6 w' w2 Q I6 r4 r6 q6))
theorem pt_chain3 {op op' op2 : CmpOp} {r r' r2 : R2} (ho : OpR X (compareOp op) r) (ho' : OpR X (compareOp op') r') (ho2 : OpR X (compareOp op2) r2) (ha : PE X a ta) (hb : PE X b tb) (hc : PE X c tc) (hd : PE X d td)
    (hm : lastMarks [op, op', op2] [b, c, d] = false := by with_unfolding_all rfl) : PT X (.Compare a [op, op', op2] [b, c, d] pos) (tTest (tChain3 r r' r2 ta tb tc td)) := by
  refine ⟨fun pins s σ H Q I h => ?_⟩
  refine isTrue_chain (thn (ha.run pins s σ H _ I h) fun v s1 ⟨x, H1, I1, r1, q1⟩ => test_link (thn (hb.run pins s1 σ H1 _ I1 q1) fun u s2 ⟨y, H2, I2, r2', q2⟩ =>
    thn (ho pins s2 σ H2 x y v u _ I2 r1 r2' q2) fun d' s3 ⟨z, H3, I3, r3, k, e, q3⟩ => ?_)) hm
  subst e
  cases r3
  refine wpAny_truthy_bool ?_
  cases k with
  | false =>
    obtain ⟨k', e', q'⟩ := q3
    cases e'
    exact ite_ff ⟨H3, I3, q'⟩
  | true =>
    refine ite_tt (test_link (thn (hc.run pins s3 σ H3 _ I3 q3) fun w' s4 ⟨z', H4, I4, r4, q4⟩ => thn (ho' pins s4 σ H4 y z' u w' _ I4 r2' r4 q4) fun d2 s5 ⟨z2, H5, I5, r5, k2, e2, q5⟩ => ?_))
    subst e2
    cases r5
    refine wpAny_truthy_bool ?_
    cases k2 with
    | false =>
      obtain ⟨k', e', q'⟩ := q5
      cases e'
      exact ite_ff ⟨H5, I5, q'⟩
    | true =>
      refine ite_tt (test_last (thn (hd.run pins s5 σ H5 _ I5 q5) fun w2 s6 ⟨z6, H6, I6, r6, q6⟩ => thn (ho2 pins s6 σ H6 z' z6 w' w2 _ I6 r4 r6 q6) fun d3 s7 ⟨z7, H7, I7, r7, k3, e3, q7⟩ => ?_))
      subst e3
      cases r7
      exact wpAny_truthy_bool ⟨H7, I7, q7⟩
end
end L2
namespace L2.DL
open PySem PySem.Spec PyProof.Rows
variable [Tbs]
section
variable {X : Cx} {W : WX} {a b c e : Expr} {ta tb tc te : DTE} {p p2 pos pos2 : Pos}
theorem rgV_rel {K : ZK} {H : Hp} {M : MS} {i j : Int} : RelA K H M (rgV i j) (rng i (j - i).toNat) := by
  unfold rgV rng
  have : ∀ l : List Nat, RelA K H M (l.map fun k => V.int (i + (k : Nat))) (l.map fun (k : Nat) => D.int (i + k)) := by
    intro l
    induction l with
    | nil => exact .nil
    | cons k l ih => exact .cons (.int _) ih
  exact this _
def dLRng1 (ta : DTE) : DTE := fun ρ R E M => ta ρ (fun d M1 => match d with
  | .int j => (-(2 ^ 62) ≤ j ∧ j ≤ 16777216) ∧ R (.lst (rng 0 j.toNat)) M1
  | _ => False) E M
def dLRng2 (ta tb : DTE) : DTE := fun ρ R E M => ta ρ (fun d M1 => tb ρ (fun e M2 => match d, e with
  | .int i, .int j => ((-(2 ^ 62) ≤ i ∧ i ≤ 16777216) ∧ -(2 ^ 62) ≤ j ∧ j ≤ 16777216 ∧ j - i ≤ 16777216) ∧ R (.lst (rng i (j - i).toNat)) M2
  | _, _ => False) E M1) E M
theorem de_lrng1 (hc : X.calm = true) (hl : X.mg "list" = none) (hr : X.mg "range" = none) (ha : DE X W a ta) (hg : Gl X "list" := by rfl) (hg2 : Gl X "range" := by rfl)
    (na : starEach [a] X.env = (false, eval a X.env) :: starEach [] X.env := by rfl) (nb : starEach [.Call (.Name "range" p2) [a] [] pos2] X.env = (false, eval (.Call (.Name "range" p2) [a] [] pos2) X.env) :: starEach [] X.env := by rfl) :
    DE X W (.Call (.Name "list" p) [.Call (.Name "range" p2) [a] [] pos2] [] pos) (dLRng1 ta) :=
  imp (pe_listRg hc hg hl (prg_1 hg2 hr ha na) nb) fun σ H Q ⟨z, ρ, M, R, E, hs, hm, h, hk, hE⟩ =>
    ⟨z, ρ, M, _, E, hs, hm, h, fun d M1 v H1 h1 m1 r1 e1 => by
      cases d with
      | int j =>
        cases r1
        obtain ⟨⟨b1, b2⟩, q⟩ := h1
        refine ⟨j, rfl, ⟨by omega, by omega, by omega, by omega, by omega⟩, fun q' hq => ?_⟩
        refine hk _ _ _ _ q (relM_new m1 hq) (.lst (fz_new m1 hq) ?_) (e1.trans (ext_new m1 hq))
        have := rgV_rel (K := ⟨X.K, z⟩) (H := upd H1 q' (.lst (rgV 0 j))) (M := M1) (i := 0) (j := j)
        rw [Int.sub_zero] at this
        exact this
      | _ => exact (show False from h1).elim, hE⟩
theorem de_lrng2 (hc : X.calm = true) (hl : X.mg "list" = none) (hr : X.mg "range" = none) (ha : DE X W a ta) (hb : DE X W b tb) (hg : Gl X "list" := by rfl) (hg2 : Gl X "range" := by rfl)
    (na : starEach [a, b] X.env = (false, eval a X.env) :: starEach [b] X.env := by rfl) (nb : starEach [b] X.env = (false, eval b X.env) :: starEach [] X.env := by rfl) (hp : (backTo pos2 (starEach [b] X.env)).any (·.1) = false := by rfl)
    (nc : starEach [.Call (.Name "range" p2) [a, b] [] pos2] X.env = (false, eval (.Call (.Name "range" p2) [a, b] [] pos2) X.env) :: starEach [] X.env := by rfl) :
    DE X W (.Call (.Name "list" p) [.Call (.Name "range" p2) [a, b] [] pos2] [] pos) (dLRng2 ta tb) :=
  imp (pe_listRg hc hg hl (prg_2 hg2 hr ha hb na nb hp) nc) fun σ H Q ⟨z, ρ, M, R, E, hs, hm, h, hk, hE⟩ =>
    ⟨z, ρ, M, _, E, hs, hm, h, fun d M1 v H1 h1 m1 r1 e1 => ⟨z, ρ, M1, _, E, hs.ext e1, m1, h1, fun d2 M2 v2 H2 h2 m2 r2 e2 => by
      cases d with
      | int i =>
        cases d2 with
        | int j =>
          cases r1
          cases r2
          obtain ⟨⟨⟨b1, b2⟩, b3, b4, b5⟩, q⟩ := h2
          refine ⟨i, j, rfl, rfl, ⟨by omega, by omega, by omega, by omega, by omega⟩, fun q' hq => ?_⟩
          exact hk _ _ _ _ q (relM_new m2 hq) (.lst (fz_new m2 hq) rgV_rel) ((e1.trans e2).trans (ext_new m2 hq))
        | _ => exact (show False from h2).elim
      | _ => cases d2 <;> exact (show False from h2).elim, hE.ext e1⟩, hE⟩
/-- chains of three -/
def dChain3 (f g h : D → D → PD → MS → Prop) (ta tb tc td : DTE) : DTE := fun ρ R E M => ta ρ (fun x M1 => tb ρ (fun y M2 => f x y (fun z M3 => match z with
  | .bl k => if k = true then tc ρ (fun w M4 => g y w (fun z2 M5 => match z2 with
    | .bl k2 => if k2 = true then td ρ (fun u M6 => h w u R M6) E M5 else R (.bl false) M5
    | _ => False) M4) E M3 else R (.bl false) M3
  | _ => False) M2) E M1) E M
theorem de_chain3 {d : Expr} {td : DTE} {op op' op2 : CmpOp} {f g h : D → D → PD → MS → Prop} (o : OpD X (compareOp op) f) (o' : OpD X (compareOp op') g) (o2 : OpD X (compareOp op2) h) (ha : DE X W a ta) (hb : DE X W b tb) (hc : DE X W c tc) (hd : DE X W d td)
    (hm : lastMarks [op, op', op2] [b, c, d] = false := by with_unfolding_all rfl) : DE X W (.Compare a [op, op', op2] [b, c, d] pos) (dChain3 f g h ta tb tc td) := by
  obtain ⟨r, ho, ad⟩ := o
  obtain ⟨r', ho', ad'⟩ := o'
  obtain ⟨r2, ho2, ad2⟩ := o2
  exact imp (pe_chain3 ho ho' ho2 ha hb hc hd hm) fun σ H Q ⟨z, ρ, M, R, E, hs, hm, h, hk, hE⟩ =>
    ⟨z, ρ, M, _, E, hs, hm, h, fun x M1 vx H1 h1 m1 r1 e1 => ⟨z, ρ, M1, _, E, hs.ext e1, m1, h1, fun y M2 vy H2 h2 m2 r2 e2 => ad _ _ _ _ _ _ _ _ _ m2 (e2 _ _ r1) r2 h2 (fun d M3 v H3 h3 m3 r3 e3 => by
      have e123 := e1.trans (e2.trans e3)
      cases d with
      | bl k =>
        cases r3
        refine ⟨k, rfl, ?_⟩
        cases k with
        | true =>
          refine iteT ⟨z, ρ, M3, _, E, hs.ext e123, m3, ofT h3, fun w M4 vw H4 h4 m4 r4 e4 => ad' _ _ _ _ _ _ _ _ _ m4 ((e3.trans e4) _ _ r2) r4 h4 (fun d5 M5 v5 H5 h5 m5 r5 e5 => ?_), hE.ext e123⟩
          have e15 := e123.trans (e4.trans e5)
          cases d5 with
          | bl k2 =>
            cases r5
            refine ⟨k2, rfl, ?_⟩
            cases k2 with
            | true => exact iteT ⟨z, ρ, M5, _, E, hs.ext e15, m5, ofT h5, fun u M6 vu H6 h6 m6 r6 e6 => ad2 _ _ _ _ _ _ _ _ _ m6 ((e5.trans e6) _ _ r4) r6 h6 (hk.ext (e15.trans e6)), hE.ext e15⟩
            | false => exact iteF (hk _ _ _ _ (ofF h5) m5 (.bl _) e15)
          | _ => exact h5.elim
        | false => exact iteF (hk _ _ _ _ (ofF h3) m3 (.bl _) e123)
      | _ => exact h3.elim), hE.ext e1⟩, hE⟩
theorem dt_chain3 {d : Expr} {td : DTE} {op op' op2 : CmpOp} {f g h : D → D → PD → MS → Prop} (o : OpD X (compareOp op) f) (o' : OpD X (compareOp op') g) (o2 : OpD X (compareOp op2) h) (ha : DE X W a ta) (hb : DE X W b tb) (hc : DE X W c tc) (hd : DE X W d td)
    (hm : lastMarks [op, op', op2] [b, c, d] = false := by with_unfolding_all rfl) : DT X W (.Compare a [op, op', op2] [b, c, d] pos) (dTst (dChain3 f g h ta tb tc td)) := by
  obtain ⟨r, ho, ad⟩ := o
  obtain ⟨r', ho', ad'⟩ := o'
  obtain ⟨r2, ho2, ad2⟩ := o2
  exact impT (pt_chain3 ho ho' ho2 ha hb hc hd hm) fun σ H Q ⟨z, ρ, M, R, E, hs, hm, h, hk, hE⟩ =>
    ⟨z, ρ, M, _, E, hs, hm, h, fun x M1 vx H1 h1 m1 r1 e1 => ⟨z, ρ, M1, _, E, hs.ext e1, m1, h1, fun y M2 vy H2 h2 m2 r2 e2 => ad _ _ _ _ _ _ _ _ _ m2 (e2 _ _ r1) r2 h2 (fun d M3 v H3 h3 m3 r3 e3 => by
      have e123 := e1.trans (e2.trans e3)
      cases d with
      | bl k =>
        cases r3
        refine ⟨k, rfl, ?_⟩
        cases k with
        | true =>
          refine iteT ⟨z, ρ, M3, _, E, hs.ext e123, m3, ofT h3, fun w M4 vw H4 h4 m4 r4 e4 => ad' _ _ _ _ _ _ _ _ _ m4 ((e3.trans e4) _ _ r2) r4 h4 (fun d5 M5 v5 H5 h5 m5 r5 e5 => ?_), hE.ext e123⟩
          have e15 := e123.trans (e4.trans e5)
          cases d5 with
          | bl k2 =>
            cases r5
            refine ⟨k2, rfl, ?_⟩
            cases k2 with
            | true => exact iteT ⟨z, ρ, M5, _, E, hs.ext e15, m5, ofT h5, fun u M6 vu H6 h6 m6 r6 e6 => ad2 _ _ _ _ _ _ _ _ _ m6 ((e5.trans e6) _ _ r4) r6 h6 (fun d7 M7 v7 H7 h7 m7 r7 e7 => by
                cases d7 with
                | bl k7 => cases r7; exact ⟨k7, rfl, hk _ _ _ h7 m7 (e15.trans (e6.trans e7))⟩
                | _ => exact h7.elim), hE.ext e15⟩
            | false => exact iteF ⟨false, rfl, hk _ _ _ (ofF h5) m5 e15⟩
          | _ => exact h5.elim
        | false => exact iteF ⟨false, rfl, hk _ _ _ (ofF h3) m3 e123⟩
      | _ => exact h3.elim), hE.ext e1⟩, hE⟩
variable {ρ : Sl} {R : PD} {E : XP} {M : MS}
theorem v_chain3 {f g h : D → D → PD → MS → Prop} {td : DTE} : dChain3 f g h ta tb tc td ρ R E M = ta ρ (fun x M1 => tb ρ (fun y M2 => f x y (fun z M3 => match z with
  | .bl k => if k = true then tc ρ (fun w M4 => g y w (fun z2 M5 => match z2 with
    | .bl k2 => if k2 = true then td ρ (fun u M6 => h w u R M6) E M5 else R (.bl false) M5
    | _ => False) M4) E M3 else R (.bl false) M3
  | _ => False) M2) E M1) E M := by (rfl)
theorem v_lrng1 : dLRng1 ta ρ R E M = ta ρ (fun d M1 => match d with
  | .int j => (-(2 ^ 62) ≤ j ∧ j ≤ 16777216) ∧ R (.lst (rng 0 j.toNat)) M1
  | _ => False) E M := by (rfl)
theorem v_lrng2 : dLRng2 ta tb ρ R E M = ta ρ (fun d M1 => tb ρ (fun e M2 => match d, e with
  | .int i, .int j => ((-(2 ^ 62) ≤ i ∧ i ≤ 16777216) ∧ -(2 ^ 62) ≤ j ∧ j ≤ 16777216 ∧ j - i ≤ 16777216) ∧ R (.lst (rng i (j - i).toNat)) M2
  | _, _ => False) E M1) E M := by (rfl)
end
end L2.DL
/-! DLzf: min, max of a tuple of alike data -/
namespace L2
open PySem PySem.Spec PyProof.Rows
theorem vals_get {xs : List V} {us : List Value} (h : Vals xs us) : ∀ (i : Nat) (u : Value), us[i]? = some u → ∃ x, xs[i]? = some x ∧ RelV x u := by
  induction h with
  | nil => intro i u e; simp at e
  | cons r _ ih =>
    intro i u e
    cases i with
    | zero => exact ⟨_, rfl, by simpa using (Option.some.inj (show some _ = some u from e)) ▸ r⟩
    | succ i => exact ih i u (by simpa using e)
theorem dps_get {K : PySem.W.Frag} {H : Hp} : ∀ {xs : List V} {ds : List PyData}, DpAll K H xs ds → ∀ (i : Nat) (x : V), xs[i]? = some x → ∃ d, ds[i]? = some d ∧ Dp K H x d
  | _, _, .nil, _, _, e => by simp at e
  | _, _, .cons h _, 0, x, e => by
    have e := Option.some.inj (show some _ = some x from e)
    subst e
    exact ⟨_, rfl, h⟩
  | _, _, .cons _ hs, i + 1, x, e => dps_get hs i x (by simpa using e)
def rBestT (K : PySem.W.Frag) (f : PyData → List PyData → PyData) : List V → Hp → VK → Prop := fun vs H Q => ∃ a xs d ds, vs = [V.ref a] ∧ SqT K H a xs ∧ DpAll K H xs (d :: ds) ∧ PySem.W.AlikeAll (d :: ds) ∧ PyData.depthAll (d :: ds) ≤ 60 ∧
  ∀ (i : Nat) x, xs[i]? = some x → (d :: ds)[i]? = some (f d ds) → Q x H
section
variable {X : Cx}
theorem cr_minT (hc : X.calm = true) (hu : X.A.units + 64 < cLine) : CallR X (.builtin "min") (rBestT X.K PySem.W.minD) := by
  intro pins s σ H vs us Q I r h
  obtain ⟨a, xs, d, ds, rfl, hs, hd, al, hdp, q⟩ := h
  obtain ⟨its, rv, hl, _⟩ := I.tuple hs
  rw [Vals.ref1 r]
  obtain ⟨as, ra⟩ := Dp.readsAll I _ _ its hd rv
  refine PySem.W.min_tuple_data (I.ok.hd hc) hl (by simpa using ra) al (by omega) fun i v h' tk bs hi rd hk => ?_
  obtain ⟨x, ex, rx⟩ := vals_get rv i v (by simpa using hi)
  obtain ⟨e, ee, he⟩ := dps_get hd i x ex
  obtain ⟨cs, rr⟩ := Dp.reads I e x v he rx
  have := (Reads.unique (PySem.W.reads_keeps hk rr) _ _ rd).1
  exact ⟨x, H, I.kept hk, rx, q i x ex (by rw [ee, this])⟩
theorem cr_maxT (hc : X.calm = true) (hu : X.A.units + 64 < cLine) : CallR X (.builtin "max") (rBestT X.K PySem.W.maxD) := by
  intro pins s σ H vs us Q I r h
  obtain ⟨a, xs, d, ds, rfl, hs, hd, al, hdp, q⟩ := h
  obtain ⟨its, rv, hl, _⟩ := I.tuple hs
  rw [Vals.ref1 r]
  obtain ⟨as, ra⟩ := Dp.readsAll I _ _ its hd rv
  refine PySem.W.max_tuple_data (I.ok.hd hc) hl (by simpa using ra) al (by omega) fun i v h' tk bs hi rd hk => ?_
  obtain ⟨x, ex, rx⟩ := vals_get rv i v (by simpa using hi)
  obtain ⟨e, ee, he⟩ := dps_get hd i x ex
  obtain ⟨cs, rr⟩ := Dp.reads I e x v he rx
  have := (Reads.unique (PySem.W.reads_keeps hk rr) _ _ rd).1
  exact ⟨x, H, I.kept hk, rx, q i x ex (by rw [ee, this])⟩
end
end L2
namespace L2.DL
open PySem PySem.Spec PyProof.Rows
variable [Tbs]
/-- min(t), max(t) of a tuple's data -/
def bestT (f : PyData → List PyData → PyData) : List D → PD → MS → Prop
  | [.tup es], R, M => isPs es = true ∧ ∃ d ds, pds es = d :: ds ∧ PySem.W.AlikeAll (d :: ds) ∧ PyData.depthAll (d :: ds) ≤ 60 ∧ ∀ e, e ∈ es → pd e = f d ds → R e M
  | _, _, _ => False
def mnTD : List D → PD → MS → Prop := bestT PySem.W.minD
def mxTD : List D → PD → MS → Prop := bestT PySem.W.maxD
theorem relA_get {K : ZK} {H : Hp} {M : MS} : ∀ {vs : List V} {ds : List D}, RelA K H M vs ds → ∀ (i : Nat) (v : V), vs[i]? = some v → ∃ d, ds[i]? = some d ∧ Rel K H M v d
  | _, _, .nil, _, _, e => by simp at e
  | _, _, .cons h _, 0, x, e => by
    have e := Option.some.inj (show some _ = some x from e)
    subst e
    exact ⟨_, rfl, h⟩
  | _, _, .cons _ hs, i + 1, x, e => relA_get hs i x (by simpa using e)
theorem pds_get : ∀ (es : List D) (i : Nat), (pds es)[i]? = (es[i]?).map pd
  | [], _ => by simp [pds]
  | _ :: _, 0 => by simp [pds]
  | _ :: es, i + 1 => by simpa [pds] using pds_get es i
theorem c_best {X : Cx} {id : String} {f : PyData → List PyData → PyData} (h : CallR X (.builtin id) (rBestT X.K f)) : CallD X (.builtin id) (bestT f) := by
  refine ⟨_, h, fun z H M xs vs R Q m ra h hc => ?_⟩
  unfold bestT at h
  split at h
  · rename_i es
    cases ra with
    | cons x y =>
      cases y
      obtain ⟨ip, d, ds, ed, al, dp, q⟩ := h
      cases x with
      | tup sq ra =>
        refine ⟨_, _, d, ds, rfl, sq, ed ▸ dps_of es _ ip ra, al, dp, fun i x ex ei => ?_⟩
        obtain ⟨e, ee, re⟩ := relA_get ra i x ex
        rw [← ed, pds_get, ee] at ei
        exact hc.here (q e (List.mem_of_getElem? ee) (Option.some.inj ei)) m re
  · exact h.elim
theorem c_minT {X : Cx} (hc : X.calm = true) (hu : X.A.units + 64 < cLine) : CallD X (.builtin "min") mnTD := c_best (cr_minT hc hu)
theorem c_maxT {X : Cx} (hc : X.calm = true) (hu : X.A.units + 64 < cLine) : CallD X (.builtin "max") mxTD := c_best (cr_maxT hc hu)
theorem alike_ints (ns : List Int) : PySem.W.AlikeAll (ns.map PyData.int) := by
  constructor
  · intro x hx y hy
    obtain ⟨a, _, rfl⟩ := List.mem_map.mp hx
    obtain ⟨b, _, rfl⟩ := List.mem_map.mp hy
    simp only [PySem.W.alike]
  · intro x hx
    obtain ⟨a, _, rfl⟩ := List.mem_map.mp hx
    exact fun e => by cases e
theorem depth_ints : ∀ ns : List Int, PyData.depthAll (ns.map PyData.int) = 0
  | [] => by simp only [List.map_nil, PyData.depthAll]
  | n :: ns => by simp only [List.map_cons, PyData.depthAll, PyData.depth, depth_ints ns, Nat.max_self]
theorem foldl_min (n : Int) (ns : List Int) : ns.foldl min n ∈ n :: ns ∧ ∀ y, y ∈ n :: ns → ns.foldl min n ≤ y := by
  induction ns generalizing n with
  | nil => simp
  | cons k r ih =>
    obtain ⟨h1, h2⟩ := ih (min n k)
    rw [List.foldl_cons]
    constructor
    · rcases List.mem_cons.mp h1 with h | h
      · rw [h]
        rcases Int.le_total n k with h | h
        · rw [Int.min_eq_left h]; exact List.mem_cons_self
        · rw [Int.min_eq_right h]; exact List.mem_cons_of_mem _ List.mem_cons_self
      · exact List.mem_cons_of_mem _ (List.mem_cons_of_mem _ h)
    · intro y hy
      have h0 := h2 (min n k) List.mem_cons_self
      rcases List.mem_cons.mp hy with h | h
      · omega
      · rcases List.mem_cons.mp h with h | h
        · omega
        · exact h2 y (List.mem_cons_of_mem _ h)
theorem foldl_max (n : Int) (ns : List Int) : ns.foldl max n ∈ n :: ns ∧ ∀ y, y ∈ n :: ns → y ≤ ns.foldl max n := by
  induction ns generalizing n with
  | nil => simp
  | cons k r ih =>
    obtain ⟨h1, h2⟩ := ih (max n k)
    rw [List.foldl_cons]
    constructor
    · rcases List.mem_cons.mp h1 with h | h
      · rw [h]
        rcases Int.le_total n k with h | h
        · rw [Int.max_eq_right h]; exact List.mem_cons_of_mem _ List.mem_cons_self
        · rw [Int.max_eq_left h]; exact List.mem_cons_self
      · exact List.mem_cons_of_mem _ (List.mem_cons_of_mem _ h)
    · intro y hy
      have h0 := h2 (max n k) List.mem_cons_self
      rcases List.mem_cons.mp hy with h | h
      · omega
      · rcases List.mem_cons.mp h with h | h
        · omega
        · exact h2 y (List.mem_cons_of_mem _ h)
theorem q_minT {n : Int} {ns : List Int} {R : PD} {M : MS} (q : ∀ k, k ∈ n :: ns → (∀ y, y ∈ n :: ns → k ≤ y) → R (.int k) M) : mnTD [.tup ((n :: ns).map D.int)] R M := by
  refine ⟨isPs_ints _, .int n, ns.map .int, pds_ints (n :: ns), alike_ints (n :: ns), by rw [← List.map_cons (f := PyData.int), depth_ints]; exact Nat.zero_le _, fun e he h => ?_⟩
  obtain ⟨k, hk, rfl⟩ := List.mem_map.mp he
  rw [PySem.W.minD_ints] at h
  have e : k = ns.foldl min n := by cases h; rfl
  subst e
  exact q _ hk (foldl_min n ns).2
theorem q_maxT {n : Int} {ns : List Int} {R : PD} {M : MS} (q : ∀ k, k ∈ n :: ns → (∀ y, y ∈ n :: ns → y ≤ k) → R (.int k) M) : mxTD [.tup ((n :: ns).map D.int)] R M := by
  refine ⟨isPs_ints _, .int n, ns.map .int, pds_ints (n :: ns), alike_ints (n :: ns), by rw [← List.map_cons (f := PyData.int), depth_ints]; exact Nat.zero_le _, fun e he h => ?_⟩
  obtain ⟨k, hk, rfl⟩ := List.mem_map.mp he
  rw [PySem.W.maxD_ints] at h
  have e : k = ns.foldl max n := by cases h; rfl
  subst e
  exact q _ hk (foldl_max n ns).2
end L2.DL
/-! DLzh: dicts whose keys are ints and texts; l[::k] of a list -/
namespace L2
open PySem PySem.Spec PyProof.Rows
def pickN {α : Type} (idx : List Nat) (xs : List α) : List α := idx.filterMap fun i => xs[i]?
theorem vals_at {xs : List V} {us : List Value} (h : Vals xs us) : ∀ i : Nat, (∃ x u, xs[i]? = some x ∧ us[i]? = some u ∧ RelV x u) ∨ (xs[i]? = none ∧ us[i]? = none) := by
  induction h with
  | nil => intro i; exact .inr ⟨by simp, by simp⟩
  | cons r _ ih =>
    intro i
    cases i with
    | zero => exact .inl ⟨_, _, rfl, rfl, r⟩
    | succ i => simpa using ih i
theorem vals_pick {xs : List V} {us : List Value} (h : Vals xs us) : ∀ idx : List Nat, Vals (pickN idx xs) (pickN idx us)
  | [] => .nil
  | i :: idx => by
    have ih := vals_pick h idx
    unfold pickN at ih ⊢
    rcases vals_at h i with ⟨x, u, e1, e2, r⟩ | ⟨e1, e2⟩
    · rw [List.filterMap_cons_some e1, List.filterMap_cons_some e2]; exact .cons r ih
    · rw [List.filterMap_cons_none e1, List.filterMap_cons_none e2]; exact ih
theorem pick_mem {α : Type} {idx : List Nat} {xs : List α} {x : α} (h : x ∈ pickN idx xs) : x ∈ xs := by
  obtain ⟨i, _, e⟩ := List.mem_filterMap.mp h
  exact List.mem_of_getElem? e
section
variable {X : Cx}
def tStepL (K : PySem.W.Frag) (te ts : TE) : TE := fun σ H Q => te σ H fun x H1 => ts σ H1 fun y H2 => ∃ a xs k, x = .ref a ∧ y = .int k ∧ k ≠ 0 ∧ SqL K H2 a xs ∧ ∀ idx : List Nat, (pickN idx xs).length ≤ xs.length → ∀ p, H2 p = none → Q (.ref p) (upd H2 p (.lst (pickN idx xs)))
theorem pe_stepL {e st : Expr} {te ts : TE} {p3 pos : Pos} (he : PE X e te) (hs : PE X st ts) : PE X (.Subscript e (.Slice none none (some st) p3) pos) (tStepL X.K te ts) := by
  refine ⟨fun pins s σ H Q I h => ?_⟩
  refine Subscript_ (thn (he.run pins s σ H _ I h) fun v s1 ⟨x, H1, I1, r1, hq⟩ => ?_)
  have hst : PO X (some st) (tPart ts) := po_some hs
  have hm3 : ∀ (t : TE) H0, t σ H0 (fun y H2 => ∃ a xs k, x = .ref a ∧ y = .int k ∧ k ≠ 0 ∧ SqL X.K H2 a xs ∧ ∀ idx : List Nat, (pickN idx xs).length ≤ xs.length → ∀ p, H2 p = none → Q (.ref p) (upd H2 p (.lst (pickN idx xs)))) →
      t σ H0 (fun y H2 => ∃ i, y = .int i ∧ ∃ a xs k, x = .ref a ∧ some i = some k ∧ k ≠ 0 ∧ SqL X.K H2 a xs ∧ ∀ idx : List Nat, (pickN idx xs).length ≤ xs.length → ∀ p, H2 p = none → Q (.ref p) (upd H2 p (.lst (pickN idx xs)))) := fun t H0 h => by
    have e : (fun (y : V) (H2 : Hp) => ∃ a xs k, x = V.ref a ∧ y = V.int k ∧ k ≠ 0 ∧ SqL X.K H2 a xs ∧ ∀ idx : List Nat, (pickN idx xs).length ≤ xs.length → ∀ p, H2 p = none → Q (.ref p) (upd H2 p (.lst (pickN idx xs)))) = (fun y H2 => ∃ i, y = .int i ∧ ∃ a xs k, x = .ref a ∧ some i = some k ∧ k ≠ 0 ∧ SqL X.K H2 a xs ∧ ∀ idx : List Nat, (pickN idx xs).length ≤ xs.length → ∀ p, H2 p = none → Q (.ref p) (upd H2 p (.lst (pickN idx xs)))) := by
      funext y H2
      apply propext
      constructor
      · rintro ⟨a, xs, k, h1, h2, h3, h4⟩
        exact ⟨k, h2, a, xs, k, h1, rfl, h3, h4⟩
      · rintro ⟨i, h2, a, xs, k, h1, h5, h3, h4⟩
        cases h5
        exact ⟨a, xs, i, h1, h2, h3, h4⟩
    rw [← e]
    exact h
  refine wpAny_Slice (thn (po_none.run pins s1 σ H1 (fun o z2 => o = none ∧ z2 = H1) I1 ⟨rfl, rfl⟩) fun vl s2 ⟨l, H2, I2, pl, el, e2⟩ => ?_)
  subst el e2
  refine thn (po_none.run pins s2 σ H2 (fun o z3 => o = none ∧ z3 = H2) I2 ⟨rfl, rfl⟩) fun vu s3 ⟨u, H3, I3, pu, eu, e3⟩ => ?_
  subst eu e3
  refine thn (hst.run pins s3 σ H3 (fun o z4 => ∃ a xs k, x = .ref a ∧ o = some k ∧ k ≠ 0 ∧ SqL X.K z4 a xs ∧ ∀ idx : List Nat, (pickN idx xs).length ≤ xs.length → ∀ p, z4 p = none → Q (.ref p) (upd z4 p (.lst (pickN idx xs)))) I3 ?_) fun vs s4 ⟨o, H4, I4, ps, a, xs, k, ex, eo, hk, hx, q⟩ => ?_
  · exact hm3 _ _ hq
  · subst ex eo
    cases r1
    have I5 : Inv X pins σ H4 { s4 with heap := s4.heap.push { cls := .type "slice", data := .fields #[vl, vu, vs] } } := I4.kept (t' := s4.toks) fun b ob q => Heap.get?_push_of_some _ q
    show wpAny (model X.prog X.w) X.A (subscriptTail e (.Slice none none (some st) p3) (.ref a) (.ref s4.heap.objs.size)) (EP X pins σ Q) X.xe { s4 with heap := s4.heap.push { cls := .type "slice", data := .fields #[vl, vu, vs] } }
    obtain ⟨its, r, ht, hz⟩ := I5.list hx
    have hlen := r.length
    refine tail_any (ops := [.ref a, .ref s4.heap.objs.size]) ht.isList.typeIs slot_list_getitem.lookup ?_ (by with_unfolding_all rfl)
    refine wpAny_getItem_list_slice ht.isList (Heap.IsSliceOf.new _ vl vu vs) pl pu ps (fun e => hk (Option.some.inj e)) ?_ (by rw [List.size_toArray]; omega)
    have hsz := slicePick_size_le its.toArray none none (some k)
    obtain ⟨idx, ei⟩ : ∃ idx : List Nat, slicePick its.toArray none none (some k) = (pickN idx its).toArray := ⟨sliceRange (sliceBounds none none (some k) its.toArray.size).1 (sliceBounds none none (some k) its.toArray.size).2.1 (sliceBounds none none (some k) its.toArray.size).2.2, by unfold slicePick pickN; simp only [List.getElem?_toArray]⟩
    have rp := vals_pick r idx
    have lp := rp.length
    rw [ei] at hsz ⊢
    rw [List.size_toArray, List.size_toArray] at hsz
    have hl2 : (pickN idx xs).length ≤ xs.length := by omega
    refine ⟨.ref _, _, I5.laid (t' := s4.toks) (o := .lst (pickN idx xs)) (fun b ob z => Heap.get?_push_of_some _ z) (Nat.le_refl _) ?_, rfl, q idx hl2 _ (I5.hok.fresh (Nat.le_refl _))⟩
    exact ⟨by omega, _, 0, rp, Heap.get?_push_size _ rfl⟩
/-- in, not in: of a dict -/
theorem op_inK (hu : X.A.units + 65 < cLine) : OpR X (compareOp .In) (fun x y H Q => ∃ a o, y = .ref a ∧ DGet H a x o ∧ Q (.bl o.isSome) H) := by
  intro pins s σ H x y v u Q I rx ry h
  obtain ⟨a, o, rfl, g, q⟩ := h
  cases ry
  exact d_in (by omega) I g rx fun s' I' => ⟨.bl _, H, I', rfl, q⟩
theorem op_notInK (hu : X.A.units + 65 < cLine) : OpR X (compareOp .NotIn) (fun x y H Q => ∃ a o, y = .ref a ∧ DGet H a x o ∧ Q (.bl (!o.isSome)) H) := by
  intro pins s σ H x y v u Q I rx ry h
  obtain ⟨a, o, rfl, g, q⟩ := h
  cases ry
  exact d_notIn (by omega) I g rx fun s' I' => ⟨.bl _, H, I', rfl, q⟩
end
end L2
namespace L2.DL
open PySem PySem.Spec PyProof.Rows
variable [Tbs]
/-! l[::k] as data -/
theorem relA_at {K : ZK} {H : Hp} {M : MS} : ∀ {vs : List V} {ds : List D}, RelA K H M vs ds → ∀ i : Nat, (∃ v d, vs[i]? = some v ∧ ds[i]? = some d ∧ Rel K H M v d) ∨ (vs[i]? = none ∧ ds[i]? = none)
  | _, _, .nil, i => .inr ⟨by simp, by simp⟩
  | _, _, .cons r _, 0 => .inl ⟨_, _, rfl, rfl, r⟩
  | _, _, .cons _ t, i + 1 => by simpa using relA_at t i
theorem RelA.pick {K : ZK} {H : Hp} {M : MS} {vs : List V} {ds : List D} (h : RelA K H M vs ds) : ∀ idx : List Nat, RelA K H M (pickN idx vs) (pickN idx ds)
  | [] => .nil
  | i :: idx => by
    have ih := RelA.pick h idx
    unfold pickN at ih ⊢
    rcases relA_at h i with ⟨x, u, e1, e2, r⟩ | ⟨e1, e2⟩
    · rw [List.filterMap_cons_some e1, List.filterMap_cons_some e2]; exact .cons r ih
    · rw [List.filterMap_cons_none e1, List.filterMap_cons_none e2]; exact ih
def stepLD : D → D → PD → MS → Prop
  | d, .int k, R, M => k ≠ 0 ∧ ∃ ds, Ls M d ds ∧ ∀ idx : List Nat, (pickN idx ds).length ≤ ds.length → R (.lst (pickN idx ds)) M
  | _, _, _, _ => False
def dStepL (te ts : DTE) : DTE := fun ρ R E M => te ρ (fun d M1 => ts ρ (fun k M2 => stepLD d k R M2) E M1) E M
theorem de_stepL {X : Cx} {W : WX} {e st : Expr} {te ts : DTE} {p3 pos : Pos} (he : DE X W e te) (hs : DE X W st ts) : DE X W (.Subscript e (.Slice none none (some st) p3) pos) (dStepL te ts) :=
  imp (pe_stepL he hs) fun σ H Q ⟨z, ρ, M, R, E, hs, hm, h, hc, hE⟩ =>
    ⟨z, ρ, M, _, E, hs, hm, h, fun d M1 v H1 h1 m1 r1 e1 => ⟨z, ρ, M1, _, E, hs.ext e1, m1, h1, fun k M2 w H2 h2 m2 r2 e2 => by
      have h2 : stepLD d k R M2 := h2
      have r1' := e2 _ _ r1
      unfold stepLD at h2
      split at h2
      · rename_i k
        obtain ⟨hk, ds, hl, q⟩ := h2
        cases r2
        obtain ⟨p, vs, rfl, hq, ra⟩ := ls_at m2 hl r1'
        refine ⟨_, _, _, rfl, rfl, hk, SqL.of hq, fun idx hi p' hp => ?_⟩
        have rp := ra.pick idx
        have hi' : (pickN idx ds).length ≤ ds.length := by rw [← rp.length, ← ra.length]; exact hi
        exact hc _ _ _ _ (q idx hi') (relM_new m2 hp) (.lst (fz_new m2 hp) ((ext_new m2 hp).all rp)) ((e1.trans e2).trans (ext_new m2 hp))
      · exact h2.elim, hE.ext e1⟩, hE⟩
theorem v_stepL {ρ : Sl} {R : PD} {E : XP} {M : MS} {te ts : DTE} : dStepL te ts ρ R E M = te ρ (fun d M1 => ts ρ (fun k M2 => stepLD d k R M2) E M1) E M := (rfl)
theorem q_stepLL {ds : List D} {k : Int} {R : PD} {M : MS} (hk : k ≠ 0) (q : ∀ idx : List Nat, (pickN idx ds).length ≤ ds.length → R (.lst (pickN idx ds)) M) : stepLD (.lst ds) (.int k) R M := ⟨hk, ds, rfl, q⟩
/-! dicts by ints and texts -/
def eK : Key → D
  | .inl i => .int i
  | .inr x => .str x
theorem eK_rel {K : ZK} {H : Hp} {M : MS} {k : Key} {v : V} (r : Rel K H M v (eK k)) : v = kV k := by
  cases k with
  | inl i => cases r; rfl
  | inr x => cases r; rfl
section
variable {κ : Type} [DecidableEq κ]
def putM (kvs : List (κ × D)) (k : κ) (d : D) : List (κ × D) :=
  if (kvs.any fun kv => decide (kv.1 = k)) = true then kvs.map (fun kv => if kv.1 = k then (kv.1, d) else kv) else kvs ++ [(k, d)]
def getM (kvs : List (κ × D)) (k : κ) : Option D := (kvs.find? fun kv => decide (kv.1 = k)).map (·.2)
def mergeM (kvs more : List (κ × D)) : List (κ × D) := more.foldl (fun acc kv => putM acc kv.1 kv.2) kvs
variable {K : ZK} {H : Hp} {M : MS}
theorem RelK.any : ∀ {ws : List (κ × V)} {kvs : List (κ × D)}, RelK K H M ws kvs → ∀ k : κ, (ws.any fun kv => decide (kv.1 = k)) = (kvs.any fun kv => decide (kv.1 = k))
  | _, _, .nil, _ => rfl
  | _, _, .cons _ t, k => by rw [List.any_cons, List.any_cons, RelK.any t k]
theorem RelK.repl (k : κ) {v : V} {d : D} (r : Rel K H M v d) : ∀ {ws : List (κ × V)} {kvs : List (κ × D)}, RelK K H M ws kvs → RelK K H M (ws.map fun kv => if kv.1 = k then (kv.1, v) else kv) (kvs.map fun kv => if kv.1 = k then (kv.1, d) else kv)
  | _, _, .nil => .nil
  | _, _, .cons (k := k') a t => by
    rw [List.map_cons, List.map_cons]
    by_cases e : k' = k
    · rw [if_pos e, if_pos e]; exact .cons r (RelK.repl k r t)
    · rw [if_neg e, if_neg e]; exact .cons a (RelK.repl k r t)
theorem RelK.snoc {k : κ} {v : V} {d : D} (r : Rel K H M v d) : ∀ {ws : List (κ × V)} {kvs : List (κ × D)}, RelK K H M ws kvs → RelK K H M (ws ++ [(k, v)]) (kvs ++ [(k, d)])
  | _, _, .nil => .cons r .nil
  | _, _, .cons a t => .cons a (RelK.snoc r t)
theorem RelK.put {ws : List (κ × V)} {kvs : List (κ × D)} (h : RelK K H M ws kvs) (k : κ) {v : V} {d : D} (r : Rel K H M v d) : RelK K H M (putK ws k v) (putM kvs k d) := by
  unfold putK putM
  rw [h.any k]
  split
  · exact RelK.repl k r h
  · exact RelK.snoc r h
theorem RelK.length : ∀ {ws : List (κ × V)} {kvs : List (κ × D)}, RelK K H M ws kvs → ws.length = kvs.length
  | _, _, .nil => rfl
  | _, _, .cons _ t => by rw [List.length_cons, List.length_cons, RelK.length t]
theorem RelK.getS {k : κ} {d : D} : ∀ {ws : List (κ × V)} {kvs : List (κ × D)}, RelK K H M ws kvs → getM kvs k = some d → ∃ v, valV ws k = some v ∧ Rel K H M v d
  | _, _, .nil, e => by simp [getM] at e
  | _, _, .cons (k := k') (v := v') (d := d') (vs := vs) (ds := ds) a t, e => by
    by_cases c : k' = k
    · have e' : some d' = some d := by simpa [getM, List.find?_cons, c] using e
      have e' := Option.some.inj e'
      subst e'
      exact ⟨v', valV_pos c, a⟩
    · have e' : getM ds k = some d := by simpa [getM, List.find?_cons, c] using e
      obtain ⟨v, h1, h2⟩ := RelK.getS t e'
      exact ⟨v, by rw [valV_neg c]; exact h1, h2⟩
theorem valV_any' (ws : List (κ × V)) (k : κ) : (valV ws k).isSome = (ws.any fun kv => decide (kv.1 = k)) := (valV_any k ws).symm
end
theorem RelK.merge {K : ZK} {H : Hp} {M : MS} : ∀ {more : List (Key × V)} {rs : List (Key × D)} {ws : List (Key × V)} {kvs : List (Key × D)}, RelK K H M more rs → RelK K H M ws kvs → RelK K H M (mergeK ws more) (mergeM kvs rs)
  | _, _, _, _, .nil, h => h
  | _, _, ws, kvs, .cons (k := k) (v := v) (d := d) (vs := vs) (ds := ds) a t, h => by
    show RelK K H M (mergeK (putK ws k v) vs) (mergeM (putM kvs k d) ds)
    exact RelK.merge t (h.put k a)
/-- dict(l) of a list of pairs -/
def dctD : List D → PD → MS → Prop
  | [.lst ds], R, M => ∃ kvs : List (Key × D), ds = kvs.map (fun kv => D.tup [eK kv.1, kv.2]) ∧ ∀ p, M p = none → R (.ref p) (um M p (.dk (mergeM [] kvs)))
  | _, _, _ => False
theorem pairs_rel {K : ZK} {H : Hp} {M : MS} : ∀ {vs : List V} {kvs : List (Key × D)}, RelA K H M vs (kvs.map fun kv => D.tup [eK kv.1, kv.2]) → ∃ (ps : List Addr) (ws : List (Key × V)), vs = ps.map V.ref ∧ Paired (fun p kv => SqT K.K H p [kV kv.1, kv.2]) ps ws ∧ RelK K H M ws kvs
  | _, [], h => by
    cases h
    exact ⟨[], [], rfl, .nil, .nil⟩
  | _, (k, d) :: kvs, h => by
    cases h with
    | cons a t =>
      obtain ⟨ps, ws, e1, e2, e3⟩ := pairs_rel t
      cases a with
      | tup s ra =>
        cases ra with
        | cons b rb =>
          cases rb with
          | cons c rc =>
            cases rc
            have ek := eK_rel b
            subst ek
            exact ⟨_ :: ps, (k, _) :: ws, by rw [e1]; rfl, .cons s e2, .cons c e3⟩
theorem c_dict {X : Cx} (hcalm : X.calm = true) : CallD X (.type "dict") dctD := by
  refine ⟨_, call_dictP hcalm, fun z H M xs vs R Q m ra h hc => ?_⟩
  unfold dctD at h
  split at h
  · obtain ⟨kvs, rfl, q⟩ := h
    cases ra with
    | cons x y =>
      cases y
      cases x with
      | lst f ra =>
        obtain ⟨ps, ws, rfl, e2, e3⟩ := pairs_rel ra
        refine ⟨_, ps, ws, rfl, f.sq, e2, fun p hp => ?_⟩
        have rk : RelK _ H M (mergeK [] ws) (mergeM [] kvs) := RelK.merge e3 .nil
        exact hc _ _ _ _ (q p (m.free hp)) (relM_alloc m hp ⟨_, upd_same, (ext_alloc m hp).keys rk⟩) (.ref p) (ext_alloc m hp)
  · exact h.elim
theorem bt_dict : bootBuiltins "dict" = some (.type "dict") := by decide +kernel
/-- k in d -/
def inKG (f : Bool → Bool) : D → D → PD → MS → Prop
  | x, .ref a, R, M => ∃ k kvs, x = eK k ∧ M a = some (.dk kvs) ∧ R (.bl (f (kvs.any fun kv => decide (kv.1 = k)))) M
  | _, _, _, _ => False
def inKD : D → D → PD → MS → Prop := inKG id
def notInKD : D → D → PD → MS → Prop := inKG fun k => !k
theorem o_inK {X : Cx} (hu : X.A.units + 65 < cLine) : OpD X (compareOp .In) inKD := by
  refine ⟨_, op_inK hu, fun z H M x y vx vy R Q m rx ry h hc => ?_⟩
  unfold inKD inKG at h
  split at h
  · obtain ⟨k, kvs, rfl, e, q⟩ := h
    obtain ⟨ws, eh, rk⟩ := m.at' _ _ e
    cases ry
    have ev := eK_rel rx
    subst ev
    refine ⟨_, _, rfl, DGet.k eh, ?_⟩
    rw [valV_any', rk.any]
    exact hc.here q m (.bl _)
  · exact h.elim
theorem o_notinK {X : Cx} (hu : X.A.units + 65 < cLine) : OpD X (compareOp .NotIn) notInKD := by
  refine ⟨_, op_notInK hu, fun z H M x y vx vy R Q m rx ry h hc => ?_⟩
  unfold notInKD inKG at h
  split at h
  · obtain ⟨k, kvs, rfl, e, q⟩ := h
    obtain ⟨ws, eh, rk⟩ := m.at' _ _ e
    cases ry
    have ev := eK_rel rx
    subst ev
    refine ⟨_, _, rfl, DGet.k eh, ?_⟩
    rw [valV_any', rk.any]
    exact hc.here q m (.bl _)
  · exact h.elim
end L2.DL
/-! DLzi: dicts whose keys are tuples of whole numbers -/
namespace L2
open PySem PySem.Spec PyProof.Rows
open L2.DL (nkN nkNs hashN hash_N dnF)
mutual
theorem reads_key {h : Heap} : ∀ (k : NestedKey) (v : Value) (as : List Addr), Reads h v k.data as → NestedIs h k v
  | .none, _, _, r => by rw [NestedKey.data] at r; cases r; exact .none
  | .num i, _, _, r => by rw [NestedKey.data] at r; cases r; exact .int i _
  | .text x, _, _, r => by rw [NestedKey.data] at r; cases r; exact .text x _
  | .tup ks, _, _, r => by
    rw [NestedKey.data] at r
    cases r with
    | tuple h1 h2 h3 h4 => exact .tup h1 h2 h3 (reads_keys ks _ _ h4)
theorem reads_keys {h : Heap} : ∀ (ks : List NestedKey) (vs : List Value) (as : List Addr), ReadsAll h vs (NestedKey.datas ks) as → NestedAll h ks vs
  | [], _, _, r => by rw [NestedKey.datas] at r; cases r; exact .nil
  | k :: ks, _, _, r => by
    rw [NestedKey.datas] at r
    cases r with
    | cons r1 r2 => exact .cons (reads_key k _ _ r1) (reads_keys ks _ _ r2)
end
/-- at b stands the key k -/
def IsNK (K : PySem.W.Frag) (H : Hp) (k : NestedKey) (b : Addr) : Prop := nkN k = true ∧ k.depth ≤ 8 ∧ Dp K H (.ref b) k.data
section
variable {X : Cx} {pins : List (Addr × Obj)} {σ : St} {H : Hp} {s : Shared}
theorem IsNK.is (I : Inv X pins σ H s) {k : NestedKey} {b : Addr} (h : IsNK X.K H k b) : (nestedKind X.prog X.w).is s.heap k b := by
  obtain ⟨_, h2, h3⟩ := h
  obtain ⟨as, r⟩ := Dp.reads I k.data (.ref b) (.ref b) h3 rfl
  exact ⟨reads_key k _ _ r, h2⟩
theorem dn_of (I : Inv X pins σ H s) {a : Addr} {xs : List (NestedKey × Addr × Value)} (e : H a = some (.ext (dnF a xs))) (hx : ∀ q ∈ xs, IsNK X.K H q.1 q.2.1) :
    (a == sysModules) = false ∧ xs.length ≤ sizeLine ∧ s.heap.DictOfH (nestedKind X.prog X.w) a xs := by
  obtain ⟨⟨h1, h2, o, es, ep, g1, g2, g3, g4, g5⟩, _, _⟩ := (show ObjOk X.prog X.w H s.heap a (.ext (dnF a xs)) from I.hok a _ e)
  refine ⟨h1, h2, o, es, ep, g1, g2, g3, ?_, fun x hx' => (hx x hx').is I, g5⟩
  rw [g4]
  refine List.map_congr_left fun x hx' => ?_
  show _ = (⟨x.1.hash X.w, .ref x.2.1, x.2.2⟩ : DictEntry)
  rw [hash_N X.w x.1 (hx x hx').1]
theorem op_inN (hu : X.A.units + 65 < cLine) : OpR X (compareOp .In) (fun x y H Q => ∃ a b xs k, y = .ref a ∧ x = .ref b ∧ H a = some (.ext (dnF a xs)) ∧ (∀ q ∈ xs, IsNK X.K H q.1 q.2.1) ∧ IsNK X.K H k b ∧ Q (.bl (xs.any fun q => decide (q.1 = k))) H) := by
  intro pins s σ H x y v u Q I rx ry h
  obtain ⟨a, b, xs, k, rfl, rfl, e, hx, hk, q⟩ := h
  cases rx
  cases ry
  obtain ⟨h1, h2, hd⟩ := dn_of I e hx
  refine in_keyed (show X.A.in1.units + 8 < cLine by show X.A.units + 1 + 8 < _; omega) (hk.is I) h1 ⟨xs, hd, rfl⟩ ?_
  refine ⟨.bl _, H, I.tok _, rfl, ?_⟩
  have e2 : (valueAt (pairsH xs) k).isSome = xs.any fun q => decide (q.1 = k) := by
    rw [valueAt_pairsH, Option.isSome_map, ← any_pairsH]
    unfold pairsH
    rw [List.any_map]
    rfl
  rw [e2]
  exact q
theorem op_notInN (hu : X.A.units + 65 < cLine) : OpR X (compareOp .NotIn) (fun x y H Q => ∃ a b xs k, y = .ref a ∧ x = .ref b ∧ H a = some (.ext (dnF a xs)) ∧ (∀ q ∈ xs, IsNK X.K H q.1 q.2.1) ∧ IsNK X.K H k b ∧ Q (.bl (!xs.any fun q => decide (q.1 = k))) H) := by
  intro pins s σ H x y v u Q I rx ry h
  obtain ⟨a, b, xs, k, rfl, rfl, e, hx, hk, q⟩ := h
  cases rx
  cases ry
  obtain ⟨h1, h2, hd⟩ := dn_of I e hx
  refine notIn_keyed (show X.A.in1.units + 8 < cLine by show X.A.units + 1 + 8 < _; omega) (hk.is I) h1 ⟨xs, hd, rfl⟩ ?_
  refine ⟨.bl _, H, I.tok _, rfl, ?_⟩
  have e2 : (valueAt (pairsH xs) k).isSome = xs.any fun q => decide (q.1 = k) := by
    rw [valueAt_pairsH, Option.isSome_map, ← any_pairsH]
    unfold pairsH
    rw [List.any_map]
    rfl
  rw [e2]
  exact q
theorem paired_mem {α β : Type} {F : α → β → Prop} {l1 : List α} {l2 : List β} (h : Paired F l1 l2) : ∀ y ∈ l2, ∃ x ∈ l1, F x y := by
  induction h with
  | nil => intro y hy; exact nomatch hy
  | @cons a b l1 l2 r _ ih =>
    intro y hy
    rcases List.mem_cons.mp hy with e | hy
    · subst e; exact ⟨a, List.mem_cons_self, r⟩
    · obtain ⟨x, hx, f⟩ := ih y hy
      exact ⟨x, List.mem_cons_of_mem _ hx, f⟩
theorem storedH_mem {acc : List (NestedKey × Addr × Value)} {k : NestedKey} {b : Addr} {v : Value} {x : NestedKey × Addr × Value} (h : x ∈ storedH acc k b v) : (∃ y ∈ acc, y.1 = x.1 ∧ y.2.1 = x.2.1) ∨ (x.1 = k ∧ x.2.1 = b) := by
  unfold storedH at h
  split at h
  · obtain ⟨y, hy, e⟩ := List.mem_map.mp h
    left
    refine ⟨y, hy, ?_⟩
    subst e
    unfold putAt
    split <;> exact ⟨rfl, rfl⟩
  · rcases List.mem_append.mp h with h | h
    · exact .inl ⟨x, h, rfl, rfl⟩
    · right
      rw [List.mem_singleton] at h
      subst h
      exact ⟨rfl, rfl⟩
theorem storedAllH_mem : ∀ {vs acc : List (NestedKey × Addr × Value)} {x : NestedKey × Addr × Value}, x ∈ storedAllH acc vs → (∃ y ∈ acc, y.1 = x.1 ∧ y.2.1 = x.2.1) ∨ ∃ y ∈ vs, y.1 = x.1 ∧ y.2.1 = x.2.1
  | [], acc, x, h => .inl ⟨x, h, rfl, rfl⟩
  | v :: vs, acc, x, h => by
    have h : x ∈ storedAllH (storedH acc v.1 v.2.1 v.2.2) vs := h
    rcases storedAllH_mem h with ⟨y, hy, e1, e2⟩ | ⟨y, hy, e⟩
    · rcases storedH_mem hy with ⟨z, hz, f1, f2⟩ | ⟨f1, f2⟩
      · exact .inl ⟨z, hz, f1.trans e1, f2.trans e2⟩
      · exact .inr ⟨v, List.mem_cons_self, f1.symm.trans e1, f2.symm.trans e2⟩
    · exact .inr ⟨y, List.mem_cons_of_mem _ hy, e⟩
/-- the entries' values, told by what they are -/
abbrev ValP : List (NestedKey × V) → List (NestedKey × Addr × Value) → Prop := Paired fun p q => p.1 = q.1 ∧ RelV p.2 q.2.2
theorem valP_any {ws : List (NestedKey × V)} {xs : List (NestedKey × Addr × Value)} (h : ValP ws xs) (k : NestedKey) : (ws.any fun kv => decide (kv.1 = k)) = (atKey xs k).isSome := by
  rw [← any_pairsH]
  unfold pairsH
  rw [List.any_map]
  induction h with
  | nil => rfl
  | cons r _ ih =>
    rw [List.any_cons, List.any_cons, ih, r.1]
    rfl
theorem valP_repl {ws : List (NestedKey × V)} {xs : List (NestedKey × Addr × Value)} (h : ValP ws xs) (k : NestedKey) {y : V} {u : Value} (ry : RelV y u) : ValP (ws.map fun kv => if kv.1 = k then (kv.1, y) else kv) (xs.map (putAt k u)) := by
  induction h with
  | nil => exact .nil
  | @cons p q ps qs r _ ih =>
    rw [List.map_cons, List.map_cons]
    refine .cons ?_ ih
    obtain ⟨h1, h3⟩ := r
    unfold putAt
    by_cases e : p.1 = k
    · rw [if_pos e, if_pos (h1.symm.trans e)]; exact ⟨h1, ry⟩
    · rw [if_neg e, if_neg (fun z => e (h1.trans z))]; exact ⟨h1, h3⟩
theorem valP_put {ws : List (NestedKey × V)} {xs : List (NestedKey × Addr × Value)} (h : ValP ws xs) (k : NestedKey) {b : Addr} {y : V} {u : Value} (ry : RelV y u) : ValP (putK ws k y) (storedH xs k b u) := by
  unfold putK storedH
  rw [valP_any h k]
  by_cases q : (atKey xs k).isSome = true
  · rw [if_pos q, if_pos q]; exact valP_repl h k ry
  · rw [if_neg q, if_neg q]; exact Paired.snoc h ⟨rfl, ry⟩
def mergeV (acc more : List (NestedKey × V)) : List (NestedKey × V) := more.foldl (fun acc kv => putK acc kv.1 kv.2) acc
theorem valP_all : ∀ {more : List (NestedKey × V)} {vs : List (NestedKey × Addr × Value)}, ValP more vs → ∀ {ws : List (NestedKey × V)} {xs : List (NestedKey × Addr × Value)}, ValP ws xs → ValP (mergeV ws more) (storedAllH xs vs)
  | _, _, .nil, _, _, h => h
  | _, _, .cons (a := p) (b := q) (l₁ := l1) (l₂ := l2) r t, ws, xs, h => by
    show ValP (mergeV (putK ws p.1 p.2) l1) (storedAllH (storedH xs q.1 q.2.1 q.2.2) l2)
    have h' := valP_put h q.1 (b := q.2.1) r.2
    rw [← r.1] at h'
    rw [← r.1]
    exact valP_all t h'
/-- dict(l) of a list of pairs, the first of each a key at an address -/
theorem call_dictN (hcalm : X.calm = true) (hu : X.A.units + 65 < cLine) : CallR X (.type "dict") (fun xs H Q => ∃ (a : Addr) (ps : List Addr) (ws : List (NestedKey × Addr × V)), xs = [.ref a] ∧ SqL X.K H a (ps.map V.ref) ∧
    Paired (fun p kv => SqT X.K H p [.ref kv.2.1, kv.2.2]) ps ws ∧ (∀ q ∈ ws, IsNK X.K H q.1 q.2.1) ∧
    ∀ p (vs : List (NestedKey × Addr × Value)), H p = none → Paired (fun (c : NestedKey × Addr × V) (q : NestedKey × Addr × Value) => c.1 = q.1 ∧ c.2.1 = q.2.1 ∧ RelV c.2.2 q.2.2) ws vs → Q (.ref p) (upd H p (.ext (dnF p (storedAllH [] vs))))) := by
  intro pins s σ H xs us Q I r q
  obtain ⟨a, ps, ws, ex, hq, hp, hk, q⟩ := q
  subst ex
  obtain ⟨u, eu, rx⟩ := vals1 r
  subst eu
  cases rx
  obtain ⟨its, rv, pl, hz⟩ := I.list hq
  have ei := refs_at rv
  subst ei
  rw [List.length_map] at hz
  have key : ∀ {ps : List Addr} {ws : List (NestedKey × Addr × V)}, Paired (fun p kv => SqT X.K H p [.ref kv.2.1, kv.2.2]) ps ws →
      ∃ vs : List (NestedKey × Addr × Value), Paired (fun (c : NestedKey × Addr × V) (q : NestedKey × Addr × Value) => c.1 = q.1 ∧ c.2.1 = q.2.1 ∧ RelV c.2.2 q.2.2) ws vs ∧ vs.length = ps.length ∧
        ∀ (j : Nat) (q : NestedKey × Addr × Value), vs[j]? = some q → ∃ T, ps[j]? = some T ∧ s.heap.IsTuple T #[.ref q.2.1, q.2.2] := by
    intro ps ws hp
    induction hp with
    | nil => exact ⟨[], .nil, rfl, fun j q e => by simp at e⟩
    | @cons p kv ps' ws' h t ih =>
      obtain ⟨vs, r1, r2, r3⟩ := ih
      obtain ⟨its, rv, ht, _⟩ := I.tuple h
      obtain ⟨u, y, ei, ru, ry⟩ := vals2 rv
      subst ei
      cases ru
      refine ⟨(kv.1, kv.2.1, y) :: vs, .cons ⟨rfl, rfl, ry⟩ r1, by rw [List.length_cons, List.length_cons, r2], fun j q e => ?_⟩
      cases j with
      | zero =>
        have e' := Option.some.inj (show some (kv.1, kv.2.1, y) = some q from e)
        subst e'
        exact ⟨p, rfl, ht⟩
      | succ j => exact r3 j q (by simpa using e)
  obtain ⟨vs, rel, hl, hT⟩ := key hp
  have hkv : ∀ x ∈ vs, IsNK X.K H x.1 x.2.1 := fun x hx => by
    obtain ⟨c, hc, e1, e2, _⟩ := paired_mem rel x hx
    have := hk c hc
    rw [e1, e2] at this
    exact this
  obtain ⟨o, n, ho, hc, hd, hdat⟩ := pl
  have hlt : ∀ {b : Addr} {ob : Obj}, s.heap.get? b = some ob → b ≠ s.heap.objs.size := fun e => Nat.ne_of_lt (Heap.lt_size e)
  have hpl : (vs.map fun x => ((.ref x.2.1, x.2.2) : Value × Value)).length = vs.length := List.length_map ..
  refine call_dict_pairsH (knd := nestedKind X.prog X.w) (ps := vs) (PairArg.list a (ps.map Value.ref).toArray (fun j => ps.getD j 0) (vs.map fun x => ((.ref x.2.1, x.2.2) : Value × Value))) (I.ok.hd hcalm) (show X.A.in1.in1.units + 8 < cLine by show X.A.units + 1 + 1 + 8 < _; omega)
    ⟨⟨o, n, ho, hc, hd, hdat⟩, by rw [List.size_toArray, List.length_map, hpl, hl], fun j k v e => ?_⟩ ⟨hpl.symm, fun i key v e => ?_⟩ (fun h' hk' x hx => ?_) (by rw [hpl, hl]; exact hz) fun h' tk hd' hk' => ?_
  · rw [List.getElem?_map] at e
    obtain ⟨x, e1, e2⟩ := Option.map_eq_some_iff.mp e
    cases e2
    obtain ⟨T, e3, e4⟩ := hT j x e1
    have hg : ps.getD j 0 = T := by rw [List.getD_eq_getElem?_getD, e3]; rfl
    refine ⟨?_, .inl ?_⟩
    · rw [List.getElem?_toArray, List.getElem?_map, e3]
      show some (Value.ref T) = some (Value.ref (ps.getD j 0))
      rw [hg]
    · show s.heap.IsTuple (ps.getD j 0) _
      rw [hg]
      exact e4
  · have e : (vs.map fun x => ((.ref x.2.1, x.2.2) : Value × Value))[i]? = some (key, v) := e
    rw [List.getElem?_map] at e
    obtain ⟨x, e1, e2⟩ := Option.map_eq_some_iff.mp e
    cases e2
    exact ⟨x.1, x.2.1, e1, rfl⟩
  · obtain ⟨g1, g2⟩ := (hkv x hx).is I
    exact ⟨NestedIs.at (fun b ob _ _ hb _ => hk' b ob (hlt hb) (fun z => nomatch z) hb) _ _ g1, g2⟩
  · have hm : (s.heap.objs.size == sysModules) = false := beq_eq_false_iff_ne.mpr (Nat.ne_of_gt I.big)
    have hlen : (storedAllH [] vs).length ≤ sizeLine := by
      have e1 : (storedAllH [] vs).length = (merged [] (pairsH vs)).length := by rw [← pairsH_length, pairsH_storedAllH]; rfl
      have e2 := merged_length_le [] (pairsH vs)
      rw [pairsH_length, List.length_nil, Nat.zero_add] at e2
      omega
    have hnk : ∀ x ∈ storedAllH [] vs, nkN x.1 = true := fun x hx => by
      rcases storedAllH_mem hx with ⟨y, hy, _⟩ | ⟨y, hy, e, _⟩
      · exact nomatch hy
      · rw [← e]; exact (hkv y hy).1
    have new : dnF s.heap.objs.size (storedAllH [] vs) h' := by
      obtain ⟨o', es, ep, g1, g2, g3, g4, _, g5⟩ := hd'
      refine ⟨hm, hlen, o', es, ep, g1, g2, g3, ?_, g5⟩
      rw [g4]
      refine List.map_congr_left fun x hx => ?_
      show (⟨x.1.hash X.w, .ref x.2.1, x.2.2⟩ : DictEntry) = _
      rw [hash_N X.w x.1 (hnk x hx)]
    have there : ∃ o', h'.get? s.heap.objs.size = some o' := let ⟨_, _, o', _, _, g1, _⟩ := new; ⟨o', g1⟩
    refine ⟨.ref s.heap.objs.size, _, I.laid (t' := tk) (o := .ext (dnF s.heap.objs.size (storedAllH [] vs))) (fun b ob e => hk' b ob (fun z => nomatch z) e) (Nat.le_refl _) ⟨new, there, fun h1 h2 x st => ?_⟩, rfl, q _ vs (I.hok.fresh (Nat.le_refl _)) rel⟩
    obtain ⟨g1, g2, o', es, ep, g3, g4⟩ := x
    exact ⟨g1, g2, o', es, ep, st _ g3, g4⟩
end
end L2
namespace L2.DL
open PySem PySem.Spec PyProof.Rows
variable [Tbs]
mutual
theorem kD_isP : ∀ k : NestedKey, isP (kD k) = true
  | .none => rfl
  | .num _ => rfl
  | .text _ => rfl
  | .tup ks => kDs_isP ks
theorem kDs_isP : ∀ ks : List NestedKey, isPs (kDs ks) = true
  | [] => rfl
  | k :: ks => by
    show (isP (kD k) && isPs (kDs ks)) = true
    rw [kD_isP k, kDs_isP ks]
    rfl
end
mutual
theorem kD_pd : ∀ k : NestedKey, pd (kD k) = k.data
  | .none => rfl
  | .num _ => rfl
  | .text _ => rfl
  | .tup ks => by
    rw [NestedKey.data, ← kDs_pd ks]
    rfl
theorem kDs_pd : ∀ ks : List NestedKey, pds (kDs ks) = NestedKey.datas ks
  | [] => rfl
  | k :: ks => by
    rw [NestedKey.datas, ← kD_pd k, ← kDs_pd ks]
    rfl
end
/-- keys that are served: tuples of whole numbers, nested -/
def NkOk (k : NestedKey) : Prop := (∃ ks, k = .tup ks) ∧ nkN k = true ∧ k.depth ≤ 8
section
variable {K : ZK} {H : Hp} {M : MS}
theorem nk_is {k : NestedKey} {b : Addr} (h1 : nkN k = true) (h2 : k.depth ≤ 8) (r : Rel K H M (.ref b) (kD k)) : IsNK K.K H k b :=
  ⟨h1, h2, by rw [← kD_pd]; exact dp_of _ _ (kD_isP k) r⟩
theorem nk_ref {k : NestedKey} {v : V} (h : NkOk k) (r : Rel K H M v (kD k)) : ∃ b, v = .ref b := by
  obtain ⟨⟨ks, rfl⟩, _⟩ := h
  cases (show Rel K H M v (.tup (kDs ks)) from r) with
  | tup s _ => exact ⟨_, rfl⟩
theorem RelK.mergeV : ∀ {more : List (NestedKey × V)} {rs : List (NestedKey × D)} {ws : List (NestedKey × V)} {kvs : List (NestedKey × D)}, RelK K H M more rs → RelK K H M ws kvs → RelK K H M (L2.mergeV ws more) (mergeM kvs rs)
  | _, _, _, _, .nil, h => h
  | _, _, ws, kvs, .cons (k := k) (v := v) (d := d) (vs := vs) (ds := ds) a t, h => by
    show RelK K H M (L2.mergeV (putK ws k v) vs) (mergeM (putM kvs k d) ds)
    exact RelK.mergeV t (h.put k a)
theorem pairs_nk : ∀ {vs : List V} {kvs : List (NestedKey × D)}, (∀ kv ∈ kvs, NkOk kv.1) → RelA K H M vs (kvs.map fun kv => D.tup [kD kv.1, kv.2]) →
    ∃ (ps : List Addr) (ws : List (NestedKey × Addr × V)), vs = ps.map V.ref ∧ Paired (fun p kv => SqT K.K H p [.ref kv.2.1, kv.2.2]) ps ws ∧ (∀ q ∈ ws, NkOk q.1 ∧ Rel K H M (.ref q.2.1) (kD q.1)) ∧ RelK K H M (ws.map fun q => (q.1, q.2.2)) kvs
  | _, [], _, h => by
    cases h
    exact ⟨[], [], rfl, .nil, (fun q hq => nomatch hq), .nil⟩
  | _, (k, d) :: kvs, hk, h => by
    cases h with
    | cons a t =>
      obtain ⟨ps, ws, e1, e2, e3, e4⟩ := pairs_nk (fun kv hkv => hk kv (List.mem_cons_of_mem _ hkv)) t
      cases a with
      | tup s ra =>
        cases ra with
        | cons b rb =>
          cases rb with
          | cons c rc =>
            cases rc
            have hk0 := hk (k, d) List.mem_cons_self
            obtain ⟨b', rfl⟩ := nk_ref hk0 b
            refine ⟨_ :: ps, (k, b', _) :: ws, by rw [e1]; rfl, .cons s e2, fun q hq => ?_, .cons c e4⟩
            rcases List.mem_cons.mp hq with e | hq
            · subst e; exact ⟨hk0, b⟩
            · exact e3 q hq
end
/-- dict(l) of pairs whose first is such a key -/
def dctND : List D → PD → MS → Prop
  | [.lst ds], R, M => ∃ kvs : List (NestedKey × D), ds = kvs.map (fun kv => D.tup [kD kv.1, kv.2]) ∧ (∀ kv ∈ kvs, NkOk kv.1) ∧ ∀ p, M p = none → R (.ref p) (um M p (.dn (mergeM [] kvs)))
  | _, _, _ => False
theorem c_dictN {X : Cx} (hcalm : X.calm = true) (hu : X.A.units + 65 < cLine) : CallD X (.type "dict") dctND := by
  refine ⟨_, call_dictN hcalm hu, fun z H M xs vs R Q m ra h hc => ?_⟩
  unfold dctND at h
  split at h
  · obtain ⟨kvs, rfl, hk, q⟩ := h
    cases ra with
    | cons x y =>
      cases y
      cases x with
      | lst f ra =>
        obtain ⟨ps, ws, rfl, e2, e3, e4⟩ := pairs_nk hk ra
        refine ⟨_, ps, ws, rfl, f.sq, e2, fun q hq => nk_is (e3 q hq).1.2.1 (e3 q hq).1.2.2 (e3 q hq).2, fun p vs' hp rel => ?_⟩
        have hv : ValP (ws.map fun q => (q.1, q.2.2)) vs' := by
          clear e2 e3 e4
          induction rel with
          | nil => exact .nil
          | cons r _ ih => exact .cons ⟨r.1, r.2.2⟩ ih
        have he := ext_alloc (o := .ext (dnF p (storedAllH [] vs'))) (mo := .dn (mergeM [] kvs)) m hp
        refine hc _ _ _ _ (q p (m.free hp)) (relM_alloc m hp ⟨storedAllH [] vs', L2.mergeV [] (ws.map fun q => (q.1, q.2.2)), upd_same, valP_all hv .nil, fun x hx => ?_, he.keys (RelK.mergeV e4 .nil)⟩) (.ref p) he
        rcases storedAllH_mem hx with ⟨y, hy, _⟩ | ⟨y, hy, f1, f2⟩
        · exact nomatch hy
        · obtain ⟨c, hc', g1, g2, _⟩ := paired_mem rel y hy
          obtain ⟨k1, k2⟩ := e3 c hc'
          rw [g1, f1] at k1
          rw [g1, f1, g2, f2] at k2
          exact ⟨k1.2, he _ _ k2⟩
  · exact h.elim
/-- k in d -/
def inNG (f : Bool → Bool) : D → D → PD → MS → Prop
  | x, .ref a, R, M => ∃ k kvs, x = kD k ∧ NkOk k ∧ M a = some (.dn kvs) ∧ R (.bl (f (kvs.any fun kv => decide (kv.1 = k)))) M
  | _, _, _, _ => False
def inND : D → D → PD → MS → Prop := inNG id
def notInND : D → D → PD → MS → Prop := inNG fun k => !k
theorem keys_any {K : ZK} {H : Hp} {M : MS} {xs : List (NestedKey × Addr × Value)} {ws : List (NestedKey × V)} {kvs : List (NestedKey × D)} (h : ValP ws xs) (r : RelK K H M ws kvs) (k : NestedKey) :
    (xs.any fun q => decide (q.1 = k)) = (kvs.any fun kv => decide (kv.1 = k)) := by
  rw [← r.any k, valP_any h k, ← any_pairsH]
  unfold pairsH
  rw [List.any_map]
  rfl
theorem o_inN {X : Cx} (hu : X.A.units + 65 < cLine) : OpD X (compareOp .In) inND := by
  refine ⟨_, op_inN hu, fun z H M x y vx vy R Q m rx ry h hc => ?_⟩
  unfold inND inNG at h
  split at h
  · obtain ⟨k, kvs, rfl, hk, e, q⟩ := h
    obtain ⟨xs, ws, eh, r1, r2, r3⟩ := m.at' _ _ e
    cases ry
    obtain ⟨b, rfl⟩ := nk_ref hk rx
    refine ⟨_, b, xs, k, rfl, rfl, eh, fun q hq => nk_is (r2 q hq).1.1 (r2 q hq).1.2 (r2 q hq).2, nk_is hk.2.1 hk.2.2 rx, ?_⟩
    rw [keys_any r1 r3]
    exact hc.here q m (.bl _)
  · exact h.elim
theorem o_notinN {X : Cx} (hu : X.A.units + 65 < cLine) : OpD X (compareOp .NotIn) notInND := by
  refine ⟨_, op_notInN hu, fun z H M x y vx vy R Q m rx ry h hc => ?_⟩
  unfold notInND inNG at h
  split at h
  · obtain ⟨k, kvs, rfl, hk, e, q⟩ := h
    obtain ⟨xs, ws, eh, r1, r2, r3⟩ := m.at' _ _ e
    cases ry
    obtain ⟨b, rfl⟩ := nk_ref hk rx
    refine ⟨_, b, xs, k, rfl, rfl, eh, fun q hq => nk_is (r2 q hq).1.1 (r2 q hq).1.2 (r2 q hq).2, nk_is hk.2.1 hk.2.2 rx, ?_⟩
    rw [keys_any r1 r3]
    exact hc.here q m (.bl _)
  · exact h.elim
end L2.DL
/-! DLzl: defs with defaults, by any global name; calls with keywords -/
namespace L2.DL
open PySem PySem.Spec PyProof.Rows
variable [Tbs]
/-- values that may stand as defaults -/
def dfV : D → V
  | .int i => .int i
  | .str x => .str x
  | .bl b => .bl b
  | _ => .non
def dfOk : D → Bool
  | .int _ => true
  | .str _ => true
  | .bl _ => true
  | .non => true
  | _ => false
theorem df_rel {K : ZK} {H : Hp} {M : MS} : ∀ {d : D}, dfOk d = true → Rel K H M (dfV d) d
  | .int _, _ => .int _
  | .str _, _ => .str _
  | .bl _, _ => .bl _
  | .non, _ => .non
  | .ty _, h => by cases h
  | .ref _, h => by cases h
  | .tup _, h => by cases h
  | .lst _, h => by cases h
  | .scr _, h => by cases h
  | .fn _, h => by cases h
  | .clo _ _ _, h => by cases h
theorem df_rels {K : ZK} {H : Hp} {M : MS} : ∀ {ds : List D}, ds.all dfOk = true → RelA K H M (ds.map dfV) ds
  | [], _ => .nil
  | d :: ds, h => by
    rw [List.all_cons, Bool.and_eq_true] at h
    exact .cons (df_rel h.1) (df_rels h.2)
section
variable {P : Program} {w : World} {K : PySem.W.Frag} {mg : Str → Option Value} {base : Heap}
/-- a def's body read over data, whatever its defaults -/
theorem FnD.ofD {x qual : Str} {params : Arguments} {body : List Stmt} {scope : Scope} {dvs : List V} {kws : List (Str × V)} {f : Addr} {fd : FuncData} {N ps : List Str} {k : Nat} {g : G} {tb : DTS} (F : FunD K x qual params body scope dvs kws f fd) (S : FnScope N ps scope) (len : ∀ ds R E M, g ds R E M → ds.length = ps.length)
    (hb : ∀ (cdv : Value) (A : Around) (outer : List Env) (s : Shared) (H : Hp) (E : XK), Room k (A.deeper (envOfC qual scope s.heap.objs.size f cdv)) → (A.deeper (envOfC qual scope s.heap.objs.size f cdv)).guards = some [] →
      DSs (cxOf (L2.CX P w) P w K mg base N qual scope f cdv A outer s H E) (WB E) body tb)
    (hg : ∀ ds R RE M, g ds R RE M → tb (ends R RE) (startD N ds) M) : FnD P w K mg base (k + 1) f fd ps g := by
  obtain ⟨oc, od, dV, kV, doc, pm, an, cdv, ct, osl, rfl, lk, hcd, _, _⟩ := F.ex
  refine ⟨len, fun A outer s H args us vs Q E hr hG e0 hbd r hsp => ?_⟩
  obtain ⟨z, ds, M, R, RE, ra, rm, hgg, hcont, hex⟩ := hsp
  have hl : vs.length = ps.length := ra.length.trans (len _ _ _ _ hgg)
  have nl : ds.length ≤ N.length := by
    have z := congrArg List.length S.pre
    rw [List.length_take] at z
    have z2 := len _ _ _ _ hgg
    omega
  have kx : K.In s.heap := e0.mod.kin.keeps fun b o e => (e0.bs b o e).1
  have nolim : s.heap.NoLimit := e0.mod.nolimit.keeps fun b o e => (e0.bs b o e).1
  have kinds : ∀ y ∈ ps.zip us, scope.names.lookup y.1 = some .local ∨ (scope.names.lookup y.1 = some .cell ∧ ((cellsFrom (s.heap.objs.size + 1) scope.names []).lookup y.1).isSome = true) := by
    rintro ⟨n, v⟩ hy
    rcases S.par n (List.of_mem_zip hy).1 with q | q
    · exact .inl q
    · exact .inr ⟨q, PySem.W.cellsFrom_some _ _ _ (.inl q)⟩
  refine codeAny_call_function hr.depth (kx _ _ lk) rfl S.co S.gen rfl (PySem.W.codeRec_of kx hcd) (hbd _ _ _ _ ?_)
  refine wpAny_newFunctionEnv_cells S.kind kinds fun env he s1 xc => ?_
  subst he
  refine ⟨nolim.keeps xc.toInCall.keep, codeAny_func ?_⟩
  have T := hb cdv A outer s H E (hr.deeper _) hG
  have I : Inv (cxOf (L2.CX P w) P w K mg base N qual scope f cdv A outer s H E) [] (L2.start N vs) H s1 := inv_start S hr.hd e0 hl r xc
  have reading : liftS K (WB E) tb { nx := fun _ H' => Q .non H', rt := Q } (L2.start N vs) H := by
    refine ⟨z, startD N ds, M, ends R RE, relS_start ra nl, rm, hg ds R RE M hgg, ?_, ?_, ?_, ?_, ?_⟩
    · rintro ρ' M' σ' H' ⟨d', M2, wk, q⟩ m s e
      exact hcont d' M2 .non H' q (m.le wk.1) (wk.2 _ H' _ m .non) (e.trans (Ext.le wk.1))
    · rintro d M' v H' ⟨d', M2, wk, q⟩ m r e
      exact hcont d' M2 v H' q (m.le wk.1) (wk.2 _ H' _ m r) (e.trans (Ext.le wk.1))
    · intro _ _ _ _ q
      exact q.elim
    · intro _ _ _ _ q
      exact q.elim
    · rintro x ρ' M' cls d σ' H' ⟨M2, l, q⟩ m s rx e
      exact hex x M2 cls d H' q (m.le l) (relX_le l rx) (e.trans (Ext.le l))
  refine wpAny_mono (T.run [] s1 (L2.start N vs) H _ I reading) (fun fl s' hs => ?_) fun e s' hs => hs
  have fin : ∀ {σ' : St} {H' : Hp} {v : V} {u : Value}, Inv (cxOf (L2.CX P w) P w K mg base N qual scope f cdv A outer s H E) [] σ' H' s' → RelV v u → Q v H' → CE outer P w H s Q u s' :=
    fun {σ' H' v u} J rv q => ⟨v, H', J.os, J.bare, J.base, J.hok, rv, q⟩
  cases fl with
  | ret u =>
    obtain ⟨v, σ', H', J, rv, q⟩ := hs
    exact fin J rv q
  | next =>
    obtain ⟨σ', H', J, q⟩ := hs
    exact fin (v := .non) (u := .none) J rfl q
  | brk => exact (let ⟨_, _, _, q⟩ := hs; q.elim)
  | cont => exact (let ⟨_, _, _, q⟩ := hs; q.elim)
/-- a def of the text by its global name x (its own name may be another, y) -/
structure TxD (K : PySem.W.Frag) (mg : Str → Option Value) (x y : Str) (st : Stmt) (dvs : List D) : Prop where
  ex : ∃ f fd, mg x = some (.ref f) ∧ FunD K y y (defArgs st) (defBody st) (defScope st) (dvs.map dfV) [] f fd
/-- .. with what it promises -/
structure DfD (P : Program) (w : World) (K : PySem.W.Frag) (mg : Str → Option Value) (base : Heap) (x y : Str) (st : Stmt) (dvs : List D) (ps : List Str) (k : Nat) (g : G) : Prop where
  ex : ∃ f fd, mg x = some (.ref f) ∧ FunD K y y (defArgs st) (defBody st) (defScope st) (dvs.map dfV) [] f fd ∧ FnD P w K mg base k f fd ps g
theorem DfD.of {x y : Str} {st : Stmt} {dvs : List D} {N ps : List Str} {k : Nat} {g : G} {tb : DTS} (T : TxD K mg x y st dvs) (S : FnScope N ps (defScope st))
    (len : ∀ ds R E M, g ds R E M → ds.length = ps.length)
    (hb : ∀ (f : Addr) (cdv : Value) (A : Around) (outer : List Env) (s : Shared) (H : Hp) (E : XK), Room k (A.deeper (envOfC y (defScope st) s.heap.objs.size f cdv)) → (A.deeper (envOfC y (defScope st) s.heap.objs.size f cdv)).guards = some [] →
      DSs (cxOf (L2.CX P w) P w K mg base N y (defScope st) f cdv A outer s H E) (WB E) (defBody st) tb)
    (hg : ∀ ds R RE M, g ds R RE M → tb (ends R RE) (startD N ds) M) : DfD P w K mg base x y st dvs ps (k + 1) g := by
  obtain ⟨f, fd, h1, F⟩ := T.ex
  exact ⟨f, fd, h1, F, FnD.ofD F S len (hb f) hg⟩
/-- the values at these places -/
def gtX {α : Type} : List α → Nat → Option α
  | [], _ => none
  | x :: _, 0 => some x
  | _ :: xs, n + 1 => gtX xs n
def pmX {α : Type} : List Nat → List α → List α
  | [], _ => []
  | i :: ix, l => match gtX l i with
    | some x => x :: pmX ix l
    | none => pmX ix l
theorem v_gt0 {α : Type} {x : α} {l : List α} : gtX (x :: l) 0 = some x := (rfl)
theorem v_gtS {α : Type} {x : α} {l : List α} {n : Nat} : gtX (x :: l) (n + 1) = gtX l n := (rfl)
theorem v_pmN {α : Type} {l : List α} : pmX [] l = [] := (rfl)
theorem v_pmC {α : Type} {l : List α} {i : Nat} {ix : List Nat} : pmX (i :: ix) l = match gtX l i with
    | some x => x :: pmX ix l
    | none => pmX ix l := (rfl)
theorem v_apN {α : Type} {l : List α} : [] ++ l = l := (rfl)
theorem v_apC {α : Type} {x : α} {l m : List α} : (x :: l) ++ m = x :: (l ++ m) := (rfl)
theorem gtX_rel {α β : Type} {r : α → β → Prop} {q : List α → List β → Prop} (hq : ∀ a as b bs, q (a :: as) (b :: bs) → r a b ∧ q as bs) (h1 : ∀ a as, ¬ q (a :: as) []) (h2 : ∀ b bs, ¬ q [] (b :: bs)) : ∀ {as : List α} {bs : List β} (i : Nat), q as bs → (gtX as i = none ∧ gtX bs i = none) ∨ ∃ a b, gtX as i = some a ∧ gtX bs i = some b ∧ r a b
  | [], [], _, _ => .inl ⟨rfl, rfl⟩
  | [], b :: bs, _, h => absurd h (h2 b bs)
  | a :: as, [], _, h => absurd h (h1 a as)
  | a :: as, b :: bs, 0, h => .inr ⟨a, b, rfl, rfl, (hq _ _ _ _ h).1⟩
  | a :: as, b :: bs, i + 1, h => gtX_rel hq h1 h2 (as := as) (bs := bs) i (hq _ _ _ _ h).2
theorem pmX_vals {vs : List V} {us : List Value} (h : Vals vs us) : ∀ ix : List Nat, Vals (pmX ix vs) (pmX ix us)
  | [] => .nil
  | i :: ix => by
    rcases gtX_rel (r := RelV) (q := Vals) (fun a as b bs h => by cases h with | cons x y => exact ⟨x, y⟩) (fun a as h => by cases h) (fun b bs h => by cases h) i h with ⟨e1, e2⟩ | ⟨a, b, e1, e2, r⟩
    · rw [v_pmC, v_pmC, e1, e2]; exact pmX_vals h ix
    · rw [v_pmC, v_pmC, e1, e2]; exact .cons r (pmX_vals h ix)
theorem pmX_rel {K : ZK} {H : Hp} {M : MS} {vs : List V} {us : List D} (h : RelA K H M vs us) : ∀ ix : List Nat, RelA K H M (pmX ix vs) (pmX ix us)
  | [] => .nil
  | i :: ix => by
    rcases gtX_rel (r := Rel K H M) (q := RelA K H M) (fun a as b bs h => by cases h with | cons x y => exact ⟨x, y⟩) (fun a as h => by cases h) (fun b bs h => by cases h) i h with ⟨e1, e2⟩ | ⟨a, b, e1, e2, r⟩
    · rw [v_pmC, v_pmC, e1, e2]; exact pmX_rel h ix
    · rw [v_pmC, v_pmC, e1, e2]; exact .cons r (pmX_rel h ix)
theorem vals_app : ∀ {vs ws : List V} {us ys : List Value}, Vals vs us → Vals ws ys → Vals (vs ++ ws) (us ++ ys)
  | _, _, _, _, .nil, s => s
  | _, _, _, _, .cons r t, s => .cons r (vals_app t s)
/-- how a call binds: n values by places, m defaults, names ks; ix: where the parameters' values stand among all these -/
def BnD (st : Stmt) (y : Str) (ps ks : List Str) (n m : Nat) (ix : List Nat) : Prop :=
  (m ≠ 0 ∧ ∀ (kV doc pm : Value) (an : Option Addr) (cdv ct : Value) (T : Addr) (us its ws : List Value), us.length = n → its.length = m → ws.length = ks.length →
      ∃ k, bindArgs (PySem.W.fnOf y y (defArgs st) (defBody st) (defScope st) (.ref T) kV doc pm an cdv ct) ⟨us, ks.zip ws⟩ = seqItems? (.ref T) >>= k ∧ k (some its.toArray) = pure (ps.zip (pmX ix (us ++ (its ++ ws))))) ∨
  (m = 0 ∧ ∀ (kV doc pm : Value) (an : Option Addr) (cdv ct : Value) (us ws : List Value), us.length = n → ws.length = ks.length →
      bindArgs (PySem.W.fnOf y y (defArgs st) (defBody st) (defScope st) .none kV doc pm an cdv ct) ⟨us, ks.zip ws⟩ = pure (ps.zip (pmX ix (us ++ ws))))
end
theorem knD {K : PySem.W.Frag} {y : Str} {st : Stmt} {dvs : List V} {f : Addr} {fd : FuncData} {ps ks : List Str} {n : Nat} {ix : List Nat} (F : FunD K y y (defArgs st) (defBody st) (defScope st) dvs [] f fd)
    (h : BnD st y ps ks n dvs.length ix) :
    ∃ its : List Value, Vals dvs its ∧ ∀ (s : Shared) (us ws : List Value), K.In s.heap → us.length = n → ws.length = ks.length → BindsTo s fd ⟨us, ks.zip ws⟩ (ps.zip (pmX ix (us ++ (its ++ ws)))) := by
  obtain ⟨oc, od, dV, kV, doc, pm, an, cdv, ct, osl, rfl, lk, hcd, hD, hK⟩ := F.ex
  rcases hD with ⟨e, e2⟩ | ⟨ne, T, o, its, m, rfl, lT, oT, rT⟩
  · subst e e2
    rcases h with ⟨e', _⟩ | ⟨_, h⟩
    · exact absurd rfl e'
    · exact ⟨[], .nil, fun s us ws X l1 l2 => .of_eq (h kV doc pm an cdv ct us ws l1 l2)⟩
  · rcases h with ⟨_, h⟩ | ⟨e, _⟩
    · refine ⟨its, rT, fun s us ws X l1 l2 => BindsTo.of_looks fun M => ?_⟩
      obtain ⟨k, e1, e2⟩ := h kV doc pm an cdv ct T us its ws l1 rT.length.symm l2
      rw [e1]
      exact looks_items X lT oT (.of_pure e2)
    · exact absurd (List.length_eq_zero_iff.mp e) ne
/-- the call: values by places, by names -/
def dCallN (n m : Nat) (ix : List Nat) (dvs : List D) (g : G) (t tk : DTA) : DTE := fun ρ R E M => t ρ (fun ds M1 => tk ρ (fun es M2 => ds.length = n ∧ es.length = m ∧ g (pmX ix (ds ++ (dvs ++ es))) R (fun x M' => E x ρ M') M2) E M1) E M
section
variable {X : Cx} {W : WX} {ea e : Expr} {es : List Expr} {t tk : DTA} {te : DTE} {g : G} {x y : Str} {ps ks : List Str} {k n m : Nat} {p pos kpos : Pos} {kws : List Keyword} {nm : Option Str} {st : Stmt} {dvs : List D} {ix : List Nat}
abbrev DK (X : Cx) (W : WX) (kws : List Keyword) (t : DTA) : Prop := PK X kws (liftA X.K W t)
theorem impK {X : Cx} {e : List Keyword} {t u : TA} (h : PK X e t) (hi : ∀ σ H Q, u σ H Q → t σ H Q) : PK X e u := ⟨fun pos pins s σ H Q I q => h.run pos pins s σ H Q I (hi σ H Q q)⟩
theorem dk_nil : DK X W [] dNil := impK pk_nil fun σ H Q ⟨z, ρ, M, R, E, hs, hm, h, hc, _⟩ => hc _ _ _ _ h hm .nil Ext.refl
theorem dk_cons (ha : DE X W e te) (hr : DK X W kws t) : DK X W (⟨nm, e, kpos⟩ :: kws) (dCons te t) :=
  impK (pk_cons ha hr) fun σ H Q ⟨z, ρ, M, R, E, hs, hm, h, hc, hE⟩ =>
    ⟨z, ρ, M, _, E, hs, hm, h, fun d M1 v H1 h1 m1 r1 e1 => ⟨z, ρ, M1, _, E, hs.ext e1, m1, h1, fun ds M2 vs H2 h2 m2 r2 e2 => hc _ _ _ _ h2 m2 (.cons (e2 _ _ r1) r2) (e1.trans e2), hE.ext e1⟩, hE⟩
/-- what stands behind the evaluation of all arguments -/
theorem callN_end {f : Addr} {fd : FuncData} {its : List Value} {pins : List (Addr × Obj)} {σ : St} {H2 : Hp} {s2 : Shared} {Q : VK} {us ws : List Value} {vs zs : List V} (F : FnD X.prog X.w X.K X.mg X.base k f fd ps g) (hr : Room k X.A) (hG : X.A.guards = some []) (tt : Takes X W) (hdv : dvs.all dfOk = true)
    (rT : Vals (dvs.map dfV) its) (hb : ∀ (s : Shared) (us ws : List Value), X.K.In s.heap → us.length = n → ws.length = ks.length → BindsTo s fd ⟨us, ks.zip ws⟩ (ps.zip (pmX ix (us ++ (its ++ ws)))))
    (I2 : Inv X pins σ H2 s2) (r : Vals vs us) (rz : Vals zs ws) (l1 : vs.length = n) (l2 : zs.length = ks.length) (q : spD X.K g (pmX ix (vs ++ (dvs.map dfV ++ zs))) H2 Q fun cls d H' => W cls d σ H') : wpAny (model X.prog X.w) X.A (call (.ref f) us (ks.zip ws)) (EP X pins σ Q) X.xe s2 := by
  refine wpAny_call (codeAny_mono (F.run X.A X.stack s2 H2 ⟨us, ks.zip ws⟩ _ _ Q _ hr hG I2.env0 (hb s2 us ws I2.kIn (r.length.symm.trans l1) (rz.length.symm.trans l2)) (pmX_vals (vals_app r (vals_app rT rz)) ix) q) fun res s' hq => ?_)
  cases res with
  | error e' => exact passAt tt σ pins H2 s2 e' s' I2 hq
  | ok fl =>
    cases fl with
    | ret u => exact I2.after hq
    | next => exact False.elim hq
    | brk => exact False.elim hq
    | cont => exact False.elim hq
theorem de_callN (dd : DfD X.prog X.w X.K X.mg X.base x y st dvs ps k g) (hr : Room k X.A) (hG : X.A.guards = some []) (tt : Takes X W) (hbn : BnD st y ps ks n dvs.length ix) (hm : ks.length = m) (ha : DA X W (e :: es) t) (hkw : DK X W kws tk)
    (hdv : dvs.all dfOk = true := by decide)
    (hall : (backToKw pos (keywordEach kws X.env)).all (·.1.isSome) = true := by rfl) (hks : (backToKw pos (keywordEach kws X.env)).filterMap (·.1) = ks := by rfl)
    (hg : Gl X x := by rfl) (hdb : (x == ("__debug__" : Str)) = false := by decide) (he : starEach (e :: es) X.env = (false, eval e X.env) :: starEach es X.env := by rfl)
    (hpl : ((backTo pos (starEach (e :: es) X.env)).any (·.1) || (backToKw pos (keywordEach kws X.env)).any (·.1.isNone)) = false := by rfl) :
    DE X W (.Call (.Name x p) (e :: es) kws pos) (dCallN n m ix dvs g t tk) := by
  obtain ⟨f, fd, hmg, F, FD⟩ := dd.ex
  obtain ⟨its, rT, hb⟩ := knD F (ps := ps) (ks := ks) (n := n) (ix := ix) (by rw [List.length_map]; exact hbn)
  refine ⟨fun pins s σ H Q I ⟨z, ρ, M, R, E, hs, hm2, h, hc, hE⟩ => ?_⟩
  refine wpAny_Call_Name_kw (ld_glob I hg hmg ?_ hdb)
  refine PySem.W.callWith_KW (h₀ := X.base) I.ok.mod.kin F.kp hall (thn (ha.run pos pins s σ H (fun vs H1 => liftA X.K W tk σ H1 fun zs H2 => vs.length = n ∧ zs.length = m ∧ spD X.K g (pmX ix (vs ++ (dvs.map dfV ++ zs))) H2 Q fun cls d H' => W cls d σ H') I
    ⟨z, ρ, M, _, E, hs, hm2, h, fun ds M1 vs H1 h1 m1 r1 e1 => ⟨z, ρ, M1, _, E, hs.ext e1, m1, h1, fun es M2 zs H2 h2 m2 r2 e2 => ⟨(r1.length).trans h2.1, (r2.length).trans h2.2.1, z, _, M2, R, _, pmX_rel ((e2.all r1).append ((df_rels hdv).append r2)) ix, m2, h2.2.2, hc.ext (e1.trans e2), fun x M' cls d H' a b c f => hE x ρ M' cls d σ H' a b (hs.ext ((e1.trans e2).trans f)) c ((e1.trans e2).trans f)⟩, hE.ext e1⟩, hE⟩) fun us s1 ⟨vs, H1, I1, r, q⟩ => ?_) hpl he
  refine thn (hkw.run pos pins s1 σ H1 _ I1 q) fun ws s2 ⟨zs, H2, I2, rz, l1, l2, q2⟩ => ⟨I2.kIn, ?_⟩
  rw [hks]
  exact callN_end FD hr hG tt hdv rT hb I2 r rz l1 (l2.trans hm.symm) q2
theorem de_callN0 (dd : DfD X.prog X.w X.K X.mg X.base x y st dvs ps k g) (hr : Room k X.A) (hG : X.A.guards = some []) (tt : Takes X W) (hbn : BnD st y ps ks 0 dvs.length ix) (hm : ks.length = m) (hkw : DK X W kws tk)
    (hdv : dvs.all dfOk = true := by decide)
    (hall : (backToKw pos (keywordEach kws X.env)).all (·.1.isSome) = true := by rfl) (hks : (backToKw pos (keywordEach kws X.env)).filterMap (·.1) = ks := by rfl)
    (hg : Gl X x := by rfl) (hdb : (x == ("__debug__" : Str)) = false := by decide)
    (hpl : ((backTo pos (starEach [] X.env)).any (·.1) || (backToKw pos (keywordEach kws X.env)).any (·.1.isNone)) = false := by rfl) :
    DE X W (.Call (.Name x p) [] kws pos) (dCallN 0 m ix dvs g dNil tk) := by
  obtain ⟨f, fd, hmg, F, FD⟩ := dd.ex
  obtain ⟨its, rT, hb⟩ := knD F (ps := ps) (ks := ks) (n := 0) (ix := ix) (by rw [List.length_map]; exact hbn)
  refine ⟨fun pins s σ H Q I ⟨z, ρ, M, R, E, hs, hm2, h, hc, hE⟩ => ?_⟩
  refine wpAny_Call_Name_kw (ld_glob I hg hmg ?_ hdb)
  refine PySem.W.callWith_KW0 (h₀ := X.base) I.ok.mod.kin F.kp hall (thn (hkw.run pos pins s σ H (fun zs H2 => zs.length = m ∧ spD X.K g (pmX ix ([] ++ (dvs.map dfV ++ zs))) H2 Q fun cls d H' => W cls d σ H') I
    ⟨z, ρ, M, _, E, hs, hm2, h, fun es M2 zs H2 h2 m2 r2 e2 => ⟨(r2.length).trans h2.2.1, z, _, M2, R, _, pmX_rel (RelA.append RelA.nil ((df_rels hdv).append r2)) ix, m2, h2.2.2, hc.ext e2, fun x M' cls d H' a b c f => hE x ρ M' cls d σ H' a b (hs.ext (e2.trans f)) c (e2.trans f)⟩, hE⟩) fun ws s2 ⟨zs, H2, I2, rz, l2, q2⟩ => ⟨I2.kIn, ?_⟩) hpl
  rw [hks]
  exact callN_end FD hr hG tt hdv rT hb I2 .nil rz rfl (l2.trans hm.symm) q2
theorem v_callN {ρ : Sl} {R : PD} {E : XP} {M : MS} : dCallN n m ix dvs g t tk ρ R E M = t ρ (fun ds M1 => tk ρ (fun es M2 => ds.length = n ∧ es.length = m ∧ g (pmX ix (ds ++ (dvs ++ es))) R (fun x M' => E x ρ M') M2) E M1) E M := (rfl)
/-- the def of a global name as a value -/
def FnV (K : PySem.W.Frag) (mg : Str → Option Value) (x : Str) : Prop := ∃ f, mg x = some (.ref f) ∧ PySem.W.nsIn K mainGlobals x = some (some (.ref f))
theorem de_fn {x : Str} {pos : Pos} (h : FnV X.K X.mg x) (hg : Gl X x := by rfl) (hd : (x == ("__debug__" : Str)) = false := by decide) : DE X W (.Name x pos) (dC (.fn x)) := by
  obtain ⟨f, h1, h2⟩ := h
  exact de_c (pe_glob (v := .ref f) hg h1 rfl hd) fun _ _ _ => .fn h2
/-- the defs that a local may stand for -/
def TkV (P : Program) (w : World) (K : PySem.W.Frag) (mg : Str → Option Value) (base : Heap) (rows : List (Str × G)) (ps : List Str) (k : Nat) : Prop := ∀ x g, (x, g) ∈ rows → Df P w K mg base x ps k g
theorem tv_nil {P : Program} {w : World} {K : PySem.W.Frag} {mg : Str → Option Value} {base : Heap} {ps : List Str} {k : Nat} : TkV P w K mg base [] ps k := fun _ _ h => (List.not_mem_nil h).elim
theorem tv_cons {P : Program} {w : World} {K : PySem.W.Frag} {mg : Str → Option Value} {base : Heap} {rows : List (Str × G)} {ps : List Str} {k : Nat} {x : Str} {g : G} (D : Df P w K mg base x ps k g) (h : TkV P w K mg base rows ps k) :
    TkV P w K mg base ((x, g) :: rows) ps k := fun y g' hy => by
  rcases List.mem_cons.mp hy with e | hy
  · cases e
    exact D
  · exact h y g' hy
theorem Df.mono {P : Program} {w : World} {K : PySem.W.Frag} {mg : Str → Option Value} {base : Heap} {ps ps' : List Str} {j k : Nat} {x : Str} {g : G} (D : Df P w K mg base x ps j g) (h : j ≤ k) : Df P w K mg base x ps k g := by
  obtain ⟨f, fd, h1, h2, h3, F⟩ := D.ex
  exact ⟨f, fd, h1, h2, h3, F.mono h⟩
/-- how many parameters there are, their names left open -/
def DfA (P : Program) (w : World) (K : PySem.W.Frag) (mg : Str → Option Value) (base : Heap) (rows : List (Str × G)) (k : Nat) : Prop := ∀ x g, (x, g) ∈ rows → ∃ ps, Df P w K mg base x ps k g
theorem ta_nil {P : Program} {w : World} {K : PySem.W.Frag} {mg : Str → Option Value} {base : Heap} {k : Nat} : DfA P w K mg base [] k := fun _ _ h => (List.not_mem_nil h).elim
theorem ta_cons {P : Program} {w : World} {K : PySem.W.Frag} {mg : Str → Option Value} {base : Heap} {rows : List (Str × G)} {ps : List Str} {j k : Nat} {x : Str} {g : G} (D : Df P w K mg base x ps j g) (hk : j ≤ k) (h : DfA P w K mg base rows k) :
    DfA P w K mg base ((x, g) :: rows) k := fun y g' hy => by
  rcases List.mem_cons.mp hy with e | hy
  · cases e
    exact ⟨ps, Df.mono (ps' := ps) D hk⟩
  · exact h y g' hy
def dCallV (rows : List (Str × G)) (tk : DTE) (t : DTA) : DTE := fun ρ R E M => tk ρ (fun d M1 => match d with
  | .fn z => ∃ g, (z, g) ∈ rows ∧ t ρ (fun ds M2 => g ds R (fun x M' => E x ρ M') M2) E M1
  | _ => False) E M
theorem v_callV {rows : List (Str × G)} {tk : DTE} {ρ : Sl} {R : PD} {E : XP} {M : MS} : dCallV rows tk t ρ R E M = tk ρ (fun d M1 => match d with
  | .fn z => ∃ g, (z, g) ∈ rows ∧ t ρ (fun ds M2 => g ds R (fun x M' => E x ρ M') M2) E M1
  | _ => False) E M := (rfl)
/-- a(..) of a local a that stands for a def -/
theorem de_callV {rows : List (Str × G)} {tk : DTE} {a : Str} (T : DfA X.prog X.w X.K X.mg X.base rows k) (hr : Room k X.A) (hG : X.A.guards = some []) (tt : Takes X W) (hv : DE X W (.Name a p) tk) (ha : DA X W (e :: es) t)
    (he : starEach (e :: es) X.env = (false, eval e X.env) :: starEach es X.env := by rfl) (hpl : (backTo pos (starEach es X.env)).any (·.1) = false := by rfl) :
    DE X W (.Call (.Name a p) (e :: es) [] pos) (dCallV rows tk t) := by
  refine ⟨fun pins s σ H Q I ⟨z, ρ, M, R, E, hs, hm2, h, hc, hE⟩ => ?_⟩
  have h1 : lift X.K W tk σ H (fun y H1 => ∃ f fd g ps, y = .ref f ∧ PySem.W.keepIn X.K (.ref f) = true ∧ Binds X.K fd ps [] ∧ FnD X.prog X.w X.K X.mg X.base k f fd ps g ∧
      liftA X.K W t σ H1 (fun vs H2 => spD X.K g vs H2 Q fun cls d H' => W cls d σ H')) := by
    refine ⟨z, ρ, M, _, E, hs, hm2, h, fun dv M1 v H1 h1 m1 r1 e1 => ?_, hE⟩
    simp only at h1
    split at h1
    · obtain ⟨g, hmem, h2⟩ := h1
      cases r1 with
      | fn hx =>
        obtain ⟨ps, D⟩ := T _ _ hmem
        obtain ⟨f, fd, e1', e2, e3, F⟩ := D.ex
        have hmg := PySem.W.mg_of I.ok.mod.kin I.ok.mod.glob hx
        rw [hmg] at e1'
        cases e1'
        exact ⟨_, fd, g, ps, rfl, e2, e3, F, z, ρ, M1, _, E, hs.ext e1, m1, h2, fun ds M2 vs H2 g2 m2 r2 e2 => ⟨z, ds, M2, R, _, r2, m2, g2, hc.ext (e1.trans e2), fun x M' cls d H' a b c f => hE x ρ M' cls d σ H' a b (hs.ext ((e1.trans e2).trans f)) c ((e1.trans e2).trans f)⟩, hE.ext e1⟩
    · exact h1.elim
  refine wpAny_Call_Name_kw (thn (hv.run pins s σ H _ I h1) fun u s1 ⟨y, H1, I1, ry, f, fd, g, ps, ey, kk, hb, F, q⟩ => ?_)
  subst ey
  obtain rfl : u = Value.ref f := ry
  refine PySem.W.callWith_K (h₀ := X.base) I1.ok.mod.kin kk (thn (ha.run pos pins s1 σ H1 _ I1 q) fun us s2 ⟨vs, H2, I2, r, q2⟩ => ⟨I2.kIn, ?_⟩) he hpl
  have hl : us.length = ps.length := by
    obtain ⟨z, ds, M1, R1, RE, ra, _, gg, _⟩ := q2
    rw [← r.length, ra.length]
    exact F.len _ _ _ _ gg
  have bb := hb s2 us I2.kIn (by rw [List.append_nil]; exact hl)
  rw [List.append_nil] at bb
  refine wpAny_call (codeAny_mono (F.run X.A X.stack s2 H2 ⟨us, []⟩ us vs Q _ hr hG I2.env0 bb r q2) fun res s' hq => ?_)
  cases res with
  | error e' => exact passAt tt σ pins H2 s2 e' s' I2 hq
  | ok fl =>
    cases fl with
    | ret u => exact I2.after hq
    | next => exact False.elim hq
    | brk => exact False.elim hq
    | cont => exact False.elim hq
theorem q_and1 {i : Int} {R : PD} {M : MS} : andD (.int i) (.int 1) R M = R (.int (i % 2)) M := by
  show R (.int (Builtin.bitAnd i 1)) M = _
  rw [bitAnd_m1]
end
end L2.DL
/-! DLzm: functions that an expression makes (lambda): their making, what they promise, their call -/
namespace L2.DL
open PySem PySem.Spec PyProof.Rows LamX NdefX
variable [Tbs]
def LFn.nf (F : LFn) : NF := ⟨"<lambda>", F.qual, F.params, [], F.scope, F.cl, F.c⟩
theorem fnL_at {P : Program} {w : World} {H : Hp} {h : Heap} {f : Addr} {F : LFn} (hok : HOk P w H h) (e : H f = some (FnL f F)) : ∃ pm ctv : Value, h.get? f = some (PySem.W.kla_obj "<lambda>" F.qual F.params F.body F.scope F.cl pm F.c ctv) := by
  obtain ⟨z, _, _⟩ := hok f _ e
  exact z
/-- what it promises: g of the arguments and what the captured names hold -/
structure LOk (P : Program) (w : World) (K : PySem.W.Frag) (mg : Str → Option Value) (base : Heap) (k : Nat) (F : LFn) (ps fr : List Str) (g : G) : Prop where
  len : ∀ ds R E M, g ds R E M → ds.length = ps.length + fr.length
  run : ∀ (f : Addr) (A : Around) (outer : List Env) (s : Shared) (H : Hp) (us : List Value) (vs ws : List V) (Q : VK) (E : XK), Room k A → A.guards = some [] → Env0 P w K mg base A outer s H → H f = some (FnL f F) → H F.c = some (CodeO F.c F.qual) →
    CellsAt F.cl fr (ws.map some) s.heap H → Vals vs us → spD K g (vs ++ ws) H Q E → codeAny (model P w) A (.call (.ref f) ⟨us, []⟩) (CR (L2.CX P w) outer P w H s Q E) s
theorem LOk.mono {P : Program} {w : World} {K : PySem.W.Frag} {mg : Str → Option Value} {base : Heap} {j k : Nat} {F : LFn} {ps fr : List Str} {g : G} (L : LOk P w K mg base j F ps fr g) (h : j ≤ k) : LOk P w K mg base k F ps fr g :=
  ⟨L.len, fun f A outer s H us vs ws Q E hr => L.run f A outer s H us vs ws Q E (hr.mono h)⟩
theorem startF_eq {N : List Str} {vs ws : List V} : startF N vs (ws.map some) = L2.start N (vs ++ ws) := by
  unfold startF L2.start
  rw [List.length_map, List.map_append, List.append_assoc, List.length_append, Nat.sub_add_eq]
section
variable {P : Program} {w : World} {K : PySem.W.Frag} {mg : Str → Option Value} {base : Heap} {N ps fr : List Str} {F : LFn} {k : Nat} {g : G} {te : DTE}
theorem LOk.of (S : NScope N ps fr F.scope) (hb : ∀ (pm ctv : Value) (us : List Value), us.length = ps.length → bindArgs (PySem.W.kla_fn "<lambda>" F.qual F.params F.body F.scope F.cl pm (.ref F.c) ctv) ⟨us, []⟩ = pure (ps.zip us))
    (len : ∀ ds R E M, g ds R E M → ds.length = ps.length + fr.length)
    (hbody : ∀ (f : Addr) (A : Around) (outer : List Env) (s : Shared) (H : Hp) (E : XK), Room k (A.deeper (envF F.nf f s.heap.objs.size)) → (A.deeper (envF F.nf f s.heap.objs.size)).guards = some [] → DE (ncx (L2.CX P w) P w K mg base N F.nf f A outer s H E) (WB E) F.body te)
    (hg : ∀ ds R RE M, g ds R RE M → te (startD N ds) (Rw R) (fun x _ M' => ∃ M2, Le M2 M' ∧ RE x M2) M) : LOk P w K mg base (k + 1) F ps fr g := by
  refine ⟨len, fun f A outer s H us vs ws Q E hr hG e0 hf hc C r hsp => ?_⟩
  obtain ⟨z, ds, M, R, RE, ra, rm, hgg, hcont, hex⟩ := hsp
  have l1 := len _ _ _ _ hgg
  have l2 := ra.length
  have l3 := C.len
  rw [List.length_map] at l3
  rw [List.length_append] at l2
  have hl : vs.length = ps.length := by omega
  have lim : s.heap.NoLimit := e0.mod.nolimit.keeps fun b o e => (e0.bs b o e).1
  obtain ⟨pm, ctv, ho⟩ := fnL_at e0.hok hf
  refine PySem.W.kla_callFunE hr.depth ho rfl S.co S.gen rfl (codeO_at e0.hok hc) ?_
  rw [hb pm ctv us (by rw [← r.length]; exact hl)]
  refine wpAny_pure (wpAny_newFunctionEnv S.nocell (fun ⟨n, _⟩ hy => S.par n (List.of_mem_zip hy).1) (fun h₁ hns hsb => ⟨lim.fresh _ hsb, ?_⟩) S.kind)
  show codeAny _ _ (.expr F.body (envF F.nf f s.heap.objs.size)) _ _
  have kp : ∀ b o, s.heap.get? b = some o → h₁.get? b = some o := fun b o e => hsb.extBut b o (Nat.ne_of_lt (Heap.lt_size e)) (Heap.get?_push_of_some _ e)
  have I : Inv (ncx (L2.CX P w) P w K mg base N F.nf f A outer s H E) [] (startF N vs (ws.map some)) H { s with heap := h₁, toks := s.toks + (ps.zip us).length } := inv_startN (F := F.nf) S hr.hd e0 hl r C hns kp
  rw [startF_eq] at I
  have nl : ds.length ≤ N.length := by
    have z := congrArg List.length S.pre
    rw [List.length_take, List.length_append] at z
    omega
  have T := hbody f A outer s H E (hr.deeper _) hG
  have reading : lift K (WB E) te (L2.start N (vs ++ ws)) H Q := by
    refine ⟨z, startD N ds, M, Rw R, _, relS_start ra nl, rm, hg ds R RE M hgg, ?_, ?_⟩
    · rintro d M' v H' ⟨d', M2, wk, q⟩ m r e
      exact hcont d' M2 v H' q (m.le wk.1) (wk.2 _ H' _ m r) (e.trans (Ext.le wk.1))
    · rintro x ρ' M' cls d σ' H' ⟨M2, l, q⟩ m s rx e
      exact hex x M2 cls d H' q (m.le l) (relX_le l rx) (e.trans (Ext.le l))
  refine PySem.W.kla_codeExpr (wpAny_mono (T.run [] _ _ H Q I reading) (fun u s' hq => ?_) fun e s' hq => hq)
  obtain ⟨v, H', J, rv, q⟩ := hq
  exact ⟨v, H', J.os, J.bare, J.base, J.hok, rv, q⟩
end
/-! ### the making -/
section
variable {X : Cx} {pins : List (Addr × Obj)} {σ : L2.St} {H : Hp} {s : Shared}
/-- a function object just made is known from now on -/
theorem inv_fnL {F : LFn} {o : Obj} {t' : Nat} {pm ctv : Value} (I : Inv X pins σ H s) (ho : o = PySem.W.kla_obj "<lambda>" F.qual F.params F.body F.scope F.cl pm F.c ctv) :
    Inv X pins σ (upd H s.heap.objs.size (FnL s.heap.objs.size F)) { s with heap := s.heap.push o, toks := t' } := by
  subst ho
  refine I.laid (a := s.heap.objs.size) (fun b u e => Heap.get?_push_of_some _ e) (Nat.le_refl _) ?_
  have e : (s.heap.push (PySem.W.kla_obj "<lambda>" F.qual F.params F.body F.scope F.cl pm F.c ctv)).get? s.heap.objs.size = some (PySem.W.kla_obj "<lambda>" F.qual F.params F.body F.scope F.cl pm F.c ctv) := Heap.get?_push_size _ rfl
  exact ⟨⟨pm, ctv, e⟩, ⟨_, e⟩, fun h1 h2 ⟨p, t, z⟩ st => ⟨p, t, st _ z⟩⟩
/-- the function is made: its code object is new, or found in the table; what the store and the hidden lists bear stays -/
theorem lam_make3 {nm : Nat → Nat → Str} {c P : Addr} {params : Arguments} {body : Expr} {scope : Scope} {pos : Pos} {E : Value → Shared → Prop} {Q : Value → Shared → Prop} {z : Hd} {M : MS} (I : Inv X pins σ H s) (TB : TabB X.base X.mg c P) (hcode : X.env.code = .ref c)
    (hm : (P, nm) ∈ Tbs.T) (hn : nm pos.line pos.col = X.env.qual ++ "<lambda>") (hu : ∀ p ∈ Tbs.T, p.1 = P → p.2 = nm) (m : RelM ⟨X.K, z⟩ H M) (hdef : defaultsOf params X.env = ([], [])) (hfree : ∀ y ∈ scope.names, y.2 = .free → ∃ c, X.env.cells.lookup y.1 = some c)
    (h : ∀ (f c' : Addr) (H1 : Hp) (s' : Shared), Inv X pins σ H1 s' → RelM ⟨X.K, z⟩ H1 M → Ext ⟨X.K, z⟩ H M H1 M → Fo ⟨X.K, z⟩ H1 M f (FnL f ⟨X.env.qual ++ "<lambda>", params, body, scope, cloFrom X.env.cells scope.names [], c'⟩) → Fo ⟨X.K, z⟩ H1 M c' (CodeO c' (X.env.qual ++ "<lambda>")) → Q (.ref f) s') :
    wpAny (model X.prog X.w) X.A (eval (.Lambda params body scope pos) X.env) Q E s := by
  obtain ⟨ps, ⟨⟨nMP, nhP⟩, hP⟩, ht, ha⟩ := m.tab _ hm
  refine PySem.W.kla_eval hdef ?_
  have bP : s.heap.BuiltinsAt X.mg P := TB.bm.keeps I.bk
  have hP' : s.heap.get? P = some { cls := .none, data := .fields ps } := I.hok P _ hP
  cases hc : codeAmong pos ps.toList with
  | none =>
    refine PySem.W.kla_makeFunction (mg := X.mg) (c := c) (P := P) (ps := ps) (closure_ok hfree) I.ok.glob (I.mod.glob.keeps I.bk) hcode (TB.code.keeps I.bk) hP' ht hc TB.gP bP fun c' ctv h' tk hx hge hlt hrec htb => ?_
    obtain ⟨c2, oc, vs, t, e2, hoc, hd, hv⟩ := hrec
    cases e2
    have nC : H c' = none := I.hok.fresh hge
    have I1 := inv_table (t' := tk) (more := #[rawInt pos.line, rawInt pos.col, .ref c']) (h' := h') I hP (fun b o hb e => hx b o hb e) htb hge ⟨oc, vs, t, hoc, hd, hv⟩
    have nPc : P ≠ c' := ne_of_none hP nC
    -- what is borne
    have fo : FoExt ⟨X.K, z⟩ (upd H P (.tbl ps)) M ⟨X.K, z⟩ (upd H P (.tbl ps)) M := fun _ _ _ s => s
    have atO : ∀ b o, H b = some o → b ≠ P → upd (upd H P (.tbl (ps ++ #[rawInt pos.line, rawInt pos.col, .ref c']))) c' (CodeO c' (X.env.qual ++ "<lambda>")) b = some o := fun b o e n => by
      rw [upd_ne (ne_of_none e nC), upd_ne n]; exact e
    have ext1 : Ext ⟨X.K, z⟩ H M (upd (upd H P (.tbl (ps ++ #[rawInt pos.line, rawInt pos.col, .ref c']))) c' (CodeO c' (X.env.qual ++ "<lambda>"))) M := by
      intro v d r
      refine Rel.mono rfl (fun p xs s => ?_) (fun p o _ nt s => ⟨s.1, atO p o s.2 fun zz => nt ps (Option.some.inj (s.2.symm.trans (by rw [zz]; exact hP)))⟩) (fun p xs s => ?_) d v r
      · exact sqT_upd (sqT_upd s (.inr ⟨_, hP, fun ys => ⟨fun z => (nomatch z), fun ob z => (nomatch z)⟩⟩)) (.inl (by rw [upd_ne nPc.symm]; exact nC))
      · exact sc_upd (sc_upd s (.inr ⟨_, hP, fun ys ob z => nomatch z⟩)) (.inl (by rw [upd_ne nPc.symm]; exact nC))
    have rm1 : RelM ⟨X.K, z⟩ (upd (upd H P (.tbl (ps ++ #[rawInt pos.line, rawInt pos.col, .ref c']))) c' (CodeO c' (X.env.qual ++ "<lambda>"))) M := by
      refine ⟨fun a mo e => ?_, fun a vs e => ?_, fun p hp => ?_⟩
      · obtain ⟨u, q, _⟩ := (m.at' a mo e).some
        exact (m.at' a mo e).ext ext1 ((atO a u q (fun zz => by rw [zz, nMP] at e; cases e)).trans q.symm)
      · obtain ⟨q1, q2⟩ := m.hid a vs e
        exact ⟨q1, atO a _ q2 fun zz => by
          rw [zz] at e
          exact nomatch e.symm.trans nhP⟩
      · by_cases hb : p.1 = P
        · have hp2 := hu p hp hb
          refine ⟨_, ⟨⟨by rw [hb]; exact nMP, by rw [hb]; exact nhP⟩, by rw [hb, upd_ne nPc, upd_same]⟩, ?_, fun p' cv hcv => ?_⟩
          · rw [show (ps ++ #[rawInt pos.line, rawInt pos.col, .ref c']).toList = ps.toList ++ [rawInt pos.line, rawInt pos.col, .ref c'] by simp]
            exact PySem.TriplesOk_snoc _ _ _ _ ht
          · rw [show (ps ++ #[rawInt pos.line, rawInt pos.col, .ref c']).toList = ps.toList ++ [rawInt pos.line, rawInt pos.col, .ref c'] by simp] at hcv
            rcases among_app2 _ ht hcv with q | ⟨q, q1, q2⟩
            · obtain ⟨c0, e1, e2⟩ := ha p' cv q
              refine ⟨c0, e1, e2.1, ?_⟩
              rw [hp2]
              exact atO c0 _ e2.2 fun zz => by have := e2.2; rw [zz, hP] at this; cases this
            · refine ⟨c', q, ⟨m.free nC, m.freeH nC⟩, ?_⟩
              rw [hp2, ← q1, ← q2, hn]
              exact upd_same
        · obtain ⟨ps', a1, a2, a3⟩ := m.tab p hp
          refine ⟨ps', ⟨a1.1, atO _ _ a1.2 hb⟩, a2, fun p' cv hcv => ?_⟩
          obtain ⟨c0, e1, e2⟩ := a3 p' cv hcv
          exact ⟨c0, e1, e2.1, atO c0 _ e2.2 fun zz => by have := e2.2; rw [zz, hP] at this; cases this⟩
    have nF := I1.hok.fresh (Nat.le_refl _)
    have I2 := inv_fnL (F := ⟨X.env.qual ++ "<lambda>", params, body, scope, cloFrom X.env.cells scope.names [], c'⟩) (t' := tk) (pm := (X.mg "__name__").getD .none) (ctv := ctv) I1 rfl
    refine h h'.objs.size c' _ _ I2 (relM_new rm1 nF) (ext1.trans (ext_new rm1 nF)) ⟨⟨rm1.free nF, rm1.freeH nF⟩, upd_same⟩ ⟨⟨m.free nC, m.freeH nC⟩, ?_⟩
    exact (upd_ne (Nat.ne_of_lt hlt)).trans upd_same
  | some cv =>
    obtain ⟨c', e, hco⟩ := ha pos cv hc
    subst e
    refine PySem.W.kla_makeFunctionHit (mg := X.mg) (c := c) (P := P) (ps := ps) (closure_ok hfree) I.ok.glob (I.mod.glob.keeps I.bk) hcode (TB.code.keeps I.bk) hP' ht hc bP fun ctv h' tk hx hsz => ?_
    have I1 : Inv X pins σ H { s with heap := h', toks := tk } := I.kept hx
    have nF : H h'.objs.size = none := I1.hok.fresh (Nat.le_refl _)
    have I2 := inv_fnL (F := ⟨X.env.qual ++ "<lambda>", params, body, scope, cloFrom X.env.cells scope.names [], c'⟩) (t' := tk) (pm := (X.mg "__name__").getD .none) (ctv := ctv) I1 rfl
    have hco : Fo ⟨X.K, z⟩ H M c' (CodeO c' (nm pos.line pos.col)) := hco
    rw [hn] at hco
    exact h h'.objs.size c' _ _ I2 (relM_new m nF) (ext_new m nF) ⟨⟨m.free nF, m.freeH nF⟩, upd_same⟩ (fo_new nF _ _ (.ext _) hco)
end
/-! ### handed on in a call, as the last argument -/
/-- what the captured names hold -/
def capD (ρ : Sl) : List Nat → Option (List D)
  | [] => some []
  | j :: js => match sl ρ j with
    | some d => match capD ρ js with
      | some ds => some (d :: ds)
      | none => none
    | none => none
theorem v_capN {ρ : Sl} : capD ρ [] = some [] := (rfl)
theorem v_capC {ρ : Sl} {j : Nat} {js : List Nat} : capD ρ (j :: js) = match sl ρ j with
    | some d => match capD ρ js with
      | some ds => some (d :: ds)
      | none => none
    | none => none := (rfl)
theorem capD_of {K : ZK} {H : Hp} {M : MS} {σ : St} {ρ : Sl} (hs : RelS K H M σ ρ) : ∀ {js : List Nat} {cs : List D}, capD ρ js = some cs → ∃ ws : List V, ws.map some = js.map (NdefX.slotAt σ) ∧ RelA K H M ws cs
  | [], cs, h => by cases h; exact ⟨[], rfl, .nil⟩
  | j :: js, cs, h => by
    rw [v_capC] at h
    cases e1 : sl ρ j with
    | none => rw [e1] at h; cases h
    | some d =>
      rw [e1] at h
      cases e2 : capD ρ js with
      | none => rw [e2] at h; cases h
      | some ds =>
        rw [e2] at h
        cases h
        obtain ⟨ws, h1, h2⟩ := capD_of hs e2
        obtain ⟨v, q, r⟩ := hs.2 j d (sl_get e1)
        exact ⟨v :: ws, by rw [List.map_cons, List.map_cons, h1, slotAt_of q], .cons r h2⟩
abbrev DTL := Sl → (List D → List D → MS → Prop) → XP → MS → Prop
def dLamE (js : List Nat) : DTL := fun ρ R _ M => ∃ cs, capD ρ js = some cs ∧ R [] cs M
def dConsL (te : DTE) (t : DTL) : DTL := fun ρ R E M => te ρ (fun x M1 => t ρ (fun xs cs M2 => R (x :: xs) cs M2) E M1) E M
/-- the words of a function that this expression makes here -/
def LmOf (X : Cx) (e : Expr) (F : LFn) : Prop := ∃ pos, e = .Lambda F.params F.body F.scope pos ∧ F.cl = cloFrom X.env.cells F.scope.names []
def liftL (X : Cx) (W : WX) (e : Expr) (js : List Nat) (t : DTL) : TA := fun σ H Q => ∃ (z : Hd) (ρ : Sl) (M : MS) (R : List D → List D → MS → Prop) (E : XP), RelS ⟨X.K, z⟩ H M σ ρ ∧ RelM ⟨X.K, z⟩ H M ∧ t ρ R E M ∧
  (∀ ds cs M' vs ws F f H', R ds cs M' → RelM ⟨X.K, z⟩ H' M' → RelA ⟨X.K, z⟩ H' M' vs ds → Rel ⟨X.K, z⟩ H' M' (.ref f) (.clo F ws cs) → LmOf X e F → ws.map some = js.map (NdefX.slotAt σ) → Ext ⟨X.K, z⟩ H M H' M' → Q (vs ++ [.ref f]) H') ∧ XOk ⟨X.K, z⟩ H M W E
abbrev DAL (X : Cx) (W : WX) (e : Expr) (js : List Nat) (es : List Expr) (t : DTL) : Prop := PA X es (liftL X W e js t)
section
variable {X : Cx} {W : WX} {e l : Expr} {es : List Expr} {te : DTE} {t : DTL} {js : List Nat}
/-- what is to be known of the place where the function is made -/
structure LamAt (X : Cx) (l : Expr) : Prop where
  ex : ∃ params body scope pos, l = .Lambda params body scope pos ∧ defaultsOf params X.env = ([], []) ∧ (∀ y ∈ scope.names, y.2 = .free → X.env.scope.names.lookup y.1 = some .cell ∨ X.env.scope.names.lookup y.1 = some .free) ∧
    ∃ c P nm, TabB X.base X.mg c P ∧ X.env.code = .ref c ∧ (P, nm) ∈ Tbs.T ∧ nm pos.line pos.col = X.env.qual ++ "<lambda>" ∧ ∀ p ∈ Tbs.T, p.1 = P → p.2 = nm
theorem dal_lam (L : LamAt X l) : DAL X W l js [l] (dLamE js) := by
  obtain ⟨params, body, scope, lpos, rfl, hdef, hfr, c, P, nm, TB, hcode, hm, hn, hu⟩ := L.ex
  refine ⟨fun pos pins s σ H Q I ⟨z, ρ, M, R, E, hs, hm2, ⟨cs, hc, h⟩, hk, hE⟩ => ?_⟩
  obtain ⟨ws, hw, rw'⟩ := capD_of hs hc
  refine Calls.spliced_cons (lam_make3 I TB hcode hm hn hu hm2 hdef (fun y hy e => (hfr y hy e).elim (fun k => I.ok.has _ (.inl k)) fun k => I.ok.has _ (.inr k)) fun f c' H1 s' I1 m1 e1 f1 f2 => Calls.spliced_nil ?_)
  exact ⟨[.ref f], H1, I1, .cons rfl .nil, hk [] cs M [] ws _ f H1 h m1 .nil (.clo f1 f2 (e1.all rw')) ⟨lpos, rfl, rfl⟩ hw e1⟩
theorem dal_cons (ha : DE X W e te) (hr : DAL X W l js es t) (hs : starEach (e :: es) X.env = (false, eval e X.env) :: starEach es X.env := by rfl) : DAL X W l js (e :: es) (dConsL te t) :=
  impA (pa_cons ha hr hs) fun σ H Q ⟨z, ρ, M, R, E, hs, hm, h, hc, hE⟩ =>
    ⟨z, ρ, M, _, E, hs, hm, h, fun d M1 v H1 h1 m1 r1 e1 => ⟨z, ρ, M1, _, E, hs.ext e1, m1, h1, fun ds cs M2 vs ws F f H2 h2 m2 r2 rf lm hw e2 => hc (d :: ds) cs M2 (v :: vs) ws F f H2 h2 m2 (.cons (e2 _ _ r1) r2) rf lm hw (e1.trans e2), hE.ext e1⟩, hE⟩
end
/-- a heap that has all that another one has -/
def BE (b b' : Heap) : Prop := ∀ a o, b.get? a = some o → b'.get? a = some o
theorem BE.refl {b : Heap} : BE b b := fun _ _ e => e
theorem BE.trans {b c d : Heap} (h : BE b c) (k : BE c d) : BE b d := fun a o e => k a o (h a o e)
theorem TabB.be {b b' : Heap} {mg : Str → Option Value} {c P : Addr} (t : TabB b mg c P) (h : BE b b') : TabB b' mg c P := ⟨t.code.keeps h, t.bm.keeps h, t.gP⟩
/-- what the captured cells hold: the heap below the call has them -/
structure CellsB (base : Heap) (cl : List (Str × Addr)) (fr : List Str) (ws : List (Option V)) : Prop where
  len : ws.length = fr.length
  all : ∀ y c, cl.lookup y = some c → ∃ v, base.IsCell c v
  inj : ∀ x y c, cl.lookup x = some c → cl.lookup y = some c → x = y
  has : ∀ (i : Nat) (y : Str), fr[i]? = some y → ∃ c, cl.lookup y = some c ∧ ∀ v, ws[i]? = some (some v) → ∃ u, L2.RelV v u ∧ base.IsCell c (some u)
theorem CellsB.at' {X : Cx} {pins : List (Addr × Obj)} {σ : St} {H : Hp} {s : Shared} {cl : List (Str × Addr)} {fr : List Str} {ws : List (Option V)} (C : CellsB X.base cl fr ws) (I : Inv X pins σ H s) : CellsAt cl fr ws s.heap H := by
  refine ⟨C.len, fun y c e => ?_, C.inj, fun i y e => ?_⟩
  · obtain ⟨v, o, h1, h2⟩ := C.all y c e
    exact ⟨(I.bs c o h1).2, v, o, (I.bs c o h1).1, h2⟩
  · obtain ⟨c, h1, h2⟩ := C.has i y e
    exact ⟨c, h1, fun v q => (h2 v q).elim fun u ⟨r, o, h3, h4⟩ => ⟨u, r, o, (I.bs c o h3).1, h4⟩⟩
def cps (cl : List (Str × Addr)) : List Addr := cl.filterMap fun p => cl.lookup p.1
theorem cps_mem {cl : List (Str × Addr)} {c : Addr} (h : c ∈ cps cl) : ∃ y, cl.lookup y = some c := by
  obtain ⟨p, _, e⟩ := List.mem_filterMap.mp h
  exact ⟨p.1, e⟩
/-- the heap below a call: what lay below, and the cells that the function captured -/
def baseX (base h : Heap) (cl : List (Str × Addr)) : Heap := PySem.W.hideAll h ((List.range h.objs.size).filter fun b => (base.get? b).isNone && !(cps cl).contains b)
section
variable {base h : Heap} {cl : List (Str × Addr)}
theorem baseX_of {b : Addr} {o : Obj} (e : (baseX base h cl).get? b = some o) : h.get? b = some o ∧ ((∃ o', base.get? b = some o') ∨ b ∈ cps cl) := by
  have e' : h.get? b = some o := PySem.W.of_hideAll _ e
  refine ⟨e', ?_⟩
  by_cases c1 : (base.get? b).isNone = true
  · by_cases c2 : (cps cl).contains b = true
    · exact .inr (by simpa using c2)
    · have hm : b ∈ (List.range h.objs.size).filter fun b => (base.get? b).isNone && !(cps cl).contains b := List.mem_filter.mpr ⟨List.mem_range.mpr (Heap.lt_size e'), by rw [c1]; simpa using c2⟩
      have z := PySem.W.hideAll_none _ (h := h) hm
      unfold baseX at e
      rw [z] at e
      cases e
  · refine .inl ?_
    cases q : base.get? b with
    | none => rw [q] at c1; exact absurd rfl c1
    | some o' => exact ⟨o', rfl⟩
theorem baseX_old {b : Addr} {o : Obj} (e : h.get? b = some o) (k : ∃ o', base.get? b = some o') : (baseX base h cl).get? b = some o := by
  refine PySem.W.hideAll_get _ e fun hm => ?_
  obtain ⟨o', q⟩ := k
  have z := (List.mem_filter.mp hm).2
  rw [q] at z
  simp at z
theorem baseX_cell {b : Addr} {o : Obj} (e : h.get? b = some o) (k : b ∈ cps cl) : (baseX base h cl).get? b = some o := by
  refine PySem.W.hideAll_get _ e fun hm => ?_
  have z := (List.mem_filter.mp hm).2
  rw [show (cps cl).contains b = true by simpa using k] at z
  simp at z
theorem lookup_snd {y : Str} {c : Addr} (e : cl.lookup y = some c) : c ∈ cps cl := List.mem_filterMap.mpr ⟨(y, c), PySem.mem_of_lookup e, e⟩
end
theorem funs_more {h base base' : Heap} : ∀ {l : List Env}, h.FunFrames base l → (∀ b ∈ frs l, base.get? b = none → base'.get? b = none) → h.FunFrames base' l
  | [], _, _ => trivial
  | env :: rest, ⟨hk, ⟨L, o, hf, hn, ho, hd⟩, hr⟩, k => ⟨hk, ⟨L, o, hf, k L (by rw [frs, List.filterMap_cons, hf]; exact .head _) hn, ho, hd⟩, funs_more hr fun b hb => k b (by rw [frs, List.filterMap_cons, hf]; exact .tail _ hb)⟩
section
variable {P : Program} {w : World} {K : PySem.W.Frag} {mg : Str → Option Value} {base : Heap} {A : Around} {outer : List Env} {s : Shared} {H : Hp} {cl : List (Str × Addr)}
theorem be_baseX (e0 : Env0 P w K mg base A outer s H) : BE base (baseX base s.heap cl) := fun a o e => baseX_old (e0.bs a o e).1 ⟨o, e⟩
/-- the call may count the cells to what lies below -/
theorem env0_more (e0 : Env0 P w K mg base A outer s H) (hc : ∀ y c, cl.lookup y = some c → H c = none ∧ c ∉ frs outer) : Env0 P w K mg (baseX base s.heap cl) A outer s H := by
  have be := be_baseX (cl := cl) e0
  have ns : ∀ {b : Addr} {m : Str → Option Value}, base.Ns b m → (baseX base s.heap cl).Ns b m := fun ⟨o, es, ep, e, d, r⟩ => ⟨o, es, ep, be _ _ e, d, r⟩
  refine ⟨e0.frames, ⟨e0.mod.kin.keeps be, ns e0.mod.glob, let ⟨mb, h1, h2⟩ := e0.mod.blt; ⟨mb, ns h1, h2⟩, e0.mod.nolimit.keeps be⟩, fun b o e => ?_, ?_, ?_, e0.frf, e0.hok, e0.bare⟩
  · obtain ⟨h1, h2⟩ := baseX_of e
    refine ⟨h1, ?_⟩
    rcases h2 with ⟨o', q⟩ | q
    · exact (e0.bs b o' q).2
    · obtain ⟨y, hy⟩ := cps_mem q
      exact (hc y b hy).1
  · exact Nat.le_of_eq (PySem.W.hideAll_size _ _)
  · refine funs_more e0.funs fun b hb n => ?_
    cases q : (baseX base s.heap cl).get? b with
    | none => rfl
    | some o =>
      obtain ⟨h1, h2⟩ := baseX_of q
      rcases h2 with ⟨o', z⟩ | z
      · rw [n] at z; cases z
      · obtain ⟨y, hy⟩ := cps_mem z
        exact absurd hb (hc y b hy).2
theorem cellsB_of {fr : List Str} {ws : List (Option V)} (C : CellsAt cl fr ws s.heap H) : CellsB (baseX base s.heap cl) cl fr ws :=
  ⟨C.len, fun y c e => let ⟨_, v, o, h1, h2⟩ := C.all y c e; ⟨v, o, baseX_cell h1 (lookup_snd e), h2⟩, C.inj, fun i y e => let ⟨c, h1, h2⟩ := C.has i y e; ⟨c, h1, fun v q => let ⟨u, r, o, h3, h4⟩ := h2 v q; ⟨u, r, o, baseX_cell h3 (lookup_snd h1), h4⟩⟩⟩
end
/-- what is known of a function that is handed on: what calling it promises, while its cells lie below -/
structure Ev (P : Program) (w : World) (K : PySem.W.Frag) (mg : Str → Option Value) (base : Heap) (j : Nat) (F : LFn) (ws : List V) (cs : List D) (φ : G) : Prop where
  ex : ∃ ps fr gl, LOk P w K mg base j F ps fr gl ∧ CellsB base F.cl fr (ws.map some) ∧ ∀ as R E M, φ as R E M → gl (as ++ cs) R E M
abbrev GH := LFn → List V → List D → G → G
/-- a def that gets a function -/
structure FnH (P : Program) (w : World) (K : PySem.W.Frag) (mg : Str → Option Value) (base : Heap) (j k : Nat) (f : Addr) (fd : FuncData) (ps : List Str) (g : GH) : Prop where
  len : ∀ F ws cs φ ds R E M, g F ws cs φ ds R E M → ds.length = ps.length
  run : ∀ (F : LFn) (ws : List V) (cs : List D) (φ : G) (A : Around) (outer : List Env) (s : Shared) (H : Hp) (args : Args) (us : List Value) (vs : List V) (Q : VK) (E : XK), Room k A → A.guards = some [] → Env0 P w K mg base A outer s H → Ev P w K mg base j F ws cs φ →
    BindsTo s fd args (ps.zip us) → Vals vs us → spD K (g F ws cs φ) vs H Q E → codeAny (model P w) A (.call (.ref f) args) (CR (L2.CX P w) outer P w H s Q E) s
section
variable {P : Program} {w : World} {K : PySem.W.Frag} {mg : Str → Option Value} {base : Heap}
theorem FnH.of {x qual : Str} {st : Stmt} {f : Addr} {fd : FuncData} {N ps : List Str} {j k : Nat} {g : GH} {tb : LFn → List V → List D → G → DTS} (F : L2.Fun K x qual st f fd) (S : FnScope N ps (defScope st)) (len : ∀ F ws cs φ ds R E M, g F ws cs φ ds R E M → ds.length = ps.length)
    (hb : ∀ (F : LFn) (ws : List V) (cs : List D) (φ : G) (cdv : Value) (A : Around) (outer : List Env) (s : Shared) (H : Hp) (E : XK), Room k (A.deeper (envOfC qual (defScope st) s.heap.objs.size f cdv)) → (A.deeper (envOfC qual (defScope st) s.heap.objs.size f cdv)).guards = some [] → Ev P w K mg base j F ws cs φ →
      DSs (cxOf (L2.CX P w) P w K mg base N qual (defScope st) f cdv A outer s H E) (WB E) (defBody st) (tb F ws cs φ))
    (hg : ∀ F ws cs φ ds R RE M, g F ws cs φ ds R RE M → tb F ws cs φ (ends R RE) (startD N ds) M) : FnH P w K mg base j (k + 1) f fd ps g := by
  obtain ⟨oc, od, kV, doc, pm, an, cdv, ct, osl, rfl, lk, hcd⟩ := F.ex
  refine ⟨len, fun F0 ws cs φ A outer s H args us vs Q E hr hG e0 ev hbd r hsp => ?_⟩
  obtain ⟨z, ds, M, R, RE, ra, rm, hgg, hcont, hex⟩ := hsp
  have z2 := len _ _ _ _ _ _ _ _ hgg
  have hl : vs.length = ps.length := ra.length.trans z2
  have nl : ds.length ≤ N.length := by
    have z := congrArg List.length S.pre
    rw [List.length_take] at z
    omega
  have kx : K.In s.heap := e0.mod.kin.keeps fun b o e => (e0.bs b o e).1
  have nolim : s.heap.NoLimit := e0.mod.nolimit.keeps fun b o e => (e0.bs b o e).1
  have kinds : ∀ y ∈ ps.zip us, (defScope st).names.lookup y.1 = some .local ∨ ((defScope st).names.lookup y.1 = some .cell ∧ ((cellsFrom (s.heap.objs.size + 1) (defScope st).names []).lookup y.1).isSome = true) := by
    rintro ⟨n, v⟩ hy
    rcases S.par n (List.of_mem_zip hy).1 with q | q
    · exact .inl q
    · exact .inr ⟨q, PySem.W.cellsFrom_some _ _ _ (.inl q)⟩
  refine codeAny_call_function hr.depth (kx _ _ lk) rfl S.co S.gen rfl (PySem.W.codeRec_of kx hcd) (hbd _ _ _ _ ?_)
  refine wpAny_newFunctionEnv_cells S.kind kinds fun env he s1 xc => ?_
  subst he
  refine ⟨nolim.keeps xc.toInCall.keep, codeAny_func ?_⟩
  have T := hb F0 ws cs φ cdv A outer s H E (hr.deeper _) hG ev
  have I : Inv (cxOf (L2.CX P w) P w K mg base N qual (defScope st) f cdv A outer s H E) [] (L2.start N vs) H s1 := inv_start S hr.hd e0 hl r xc
  have reading : liftS K (WB E) (tb F0 ws cs φ) { nx := fun _ H' => Q .non H', rt := Q } (L2.start N vs) H := by
    refine ⟨z, startD N ds, M, ends R RE, relS_start ra nl, rm, hg F0 ws cs φ ds R RE M hgg, ?_, ?_, ?_, ?_, ?_⟩
    · rintro ρ' M' σ' H' ⟨d', M2, wk, q⟩ m s e
      exact hcont d' M2 .non H' q (m.le wk.1) (wk.2 _ H' _ m .non) (e.trans (Ext.le wk.1))
    · rintro d M' v H' ⟨d', M2, wk, q⟩ m r e
      exact hcont d' M2 v H' q (m.le wk.1) (wk.2 _ H' _ m r) (e.trans (Ext.le wk.1))
    · intro _ _ _ _ q
      exact q.elim
    · intro _ _ _ _ q
      exact q.elim
    · rintro x ρ' M' cls d σ' H' ⟨M2, l, q⟩ m s rx e
      exact hex x M2 cls d H' q (m.le l) (relX_le l rx) (e.trans (Ext.le l))
  refine wpAny_mono (T.run [] s1 (L2.start N vs) H _ I reading) (fun fl s' hs => ?_) fun e s' hs => hs
  have fin : ∀ {σ' : St} {H' : Hp} {v : V} {u : Value}, Inv (cxOf (L2.CX P w) P w K mg base N qual (defScope st) f cdv A outer s H E) [] σ' H' s' → RelV v u → Q v H' → CE outer P w H s Q u s' :=
    fun {σ' H' v u} J rv q => ⟨v, H', J.os, J.bare, J.base, J.hok, rv, q⟩
  cases fl with
  | ret u =>
    obtain ⟨v, σ', H', J, rv, q⟩ := hs
    exact fin J rv q
  | next =>
    obtain ⟨σ', H', J, q⟩ := hs
    exact fin (v := .non) (u := .none) J rfl q
  | brk => exact (let ⟨_, _, _, q⟩ := hs; q.elim)
  | cont => exact (let ⟨_, _, _, q⟩ := hs; q.elim)
structure DfH (P : Program) (w : World) (K : PySem.W.Frag) (mg : Str → Option Value) (base : Heap) (x : Str) (ps : List Str) (j k : Nat) (g : GH) : Prop where
  ex : ∃ f fd, mg x = some (.ref f) ∧ PySem.W.keepIn K (.ref f) = true ∧ Binds K fd ps [] ∧ FnH P w K mg base j k f fd ps g
theorem DfH.of {x : Str} {st : Stmt} {N ps : List Str} {j k : Nat} {g : GH} {tb : LFn → List V → List D → G → DTS} (T : Tx K mg x st) (S : FnScope N ps (defScope st))
    (bd : ∀ (kV doc pm : Value) (an : Option Addr) (cdv ct : Value) (us : List Value), us.length = ps.length → bindArgs (PySem.W.fnOf x x (defArgs st) (defBody st) (defScope st) .none kV doc pm an cdv ct) ⟨us, []⟩ = pure (ps.zip us))
    (len : ∀ F ws cs φ ds R E M, g F ws cs φ ds R E M → ds.length = ps.length)
    (hb : ∀ (F : LFn) (ws : List V) (cs : List D) (φ : G) (f : Addr) (cdv : Value) (A : Around) (outer : List Env) (s : Shared) (H : Hp) (E : XK), Room k (A.deeper (envOfC x (defScope st) s.heap.objs.size f cdv)) → (A.deeper (envOfC x (defScope st) s.heap.objs.size f cdv)).guards = some [] → Ev P w K mg base j F ws cs φ →
      DSs (cxOf (L2.CX P w) P w K mg base N x (defScope st) f cdv A outer s H E) (WB E) (defBody st) (tb F ws cs φ))
    (hg : ∀ F ws cs φ ds R RE M, g F ws cs φ ds R RE M → tb F ws cs φ (ends R RE) (startD N ds) M) : DfH P w K mg base x ps j (k + 1) g := by
  obtain ⟨f, fd, h1, F⟩ := T.ex
  exact ⟨f, fd, h1, F.kp, F.binds bd, FnH.of F S len (fun F ws cs φ => hb F ws cs φ f) hg⟩
end
/-! ### the calls -/
/-- f(e, .., lambda ..): gl what the function promises of its arguments and what it captured -/
def dCallH (g : GH) (gl : G) (t : DTL) : DTE := fun ρ R E M => t ρ (fun ds cs M1 => ∀ F ws, g F ws cs (fun as R E M => gl (as ++ cs) R E M) (ds ++ [.clo F ws cs]) R (fun x M' => E x ρ M') M1) E M
theorem v_callH {g : GH} {gl : G} {t : DTL} {ρ : Sl} {R : PD} {E : XP} {M : MS} : dCallH g gl t ρ R E M = t ρ (fun ds cs M1 => ∀ F ws, g F ws cs (fun as R E M => gl (as ++ cs) R E M) (ds ++ [.clo F ws cs]) R (fun x M' => E x ρ M') M1) E M := (rfl)
theorem v_lamE {js : List Nat} {ρ : Sl} {R : List D → List D → MS → Prop} {E : XP} {M : MS} : dLamE js ρ R E M = ∃ cs, capD ρ js = some cs ∧ R [] cs M := (rfl)
theorem v_consL {te : DTE} {t : DTL} {ρ : Sl} {R : List D → List D → MS → Prop} {E : XP} {M : MS} : dConsL te t ρ R E M = te ρ (fun x M1 => t ρ (fun xs cs M2 => R (x :: xs) cs M2) E M1) E M := (rfl)
section
variable {X : Cx} {W : WX} {e l : Expr} {es : List Expr} {t : DTA} {tl : DTL} {g : GH} {gl : G} {x a : Str} {ps lps fr : List Str} {j k : Nat} {js : List Nat} {p pos : Pos}
/-- the evidence at the place where the function is made -/
theorem ev_of {pins : List (Addr × Obj)} {σ : St} {H : Hp} {s : Shared} {F : LFn} {ws : List V} {cs : List D} (I : Inv X pins σ H s) (L : ∀ b, BE X.base b → ∀ F, LmOf X l F → LOk X.prog X.w X.K X.mg b j F lps fr gl) (lm : LmOf X l F)
    (hfr : ∀ F, LmOf X l F → (∀ y ∈ F.scope.names, y.2 = .free → X.env.scope.names.lookup y.1 = some .cell ∨ X.env.scope.names.lookup y.1 = some .free) ∧ (∀ y ∈ fr, (y, NameKind.free) ∈ F.scope.names) ∧ ∀ y ∈ F.scope.names, y.2 = .free → X.fn y.1 = true)
    (hjs : js.map (fun j => X.N[j]?) = fr.map some) (hw : ws.map some = js.map (NdefX.slotAt σ)) (hst : X.stack = X.env :: X.outer) (hff : X.env.frame = some X.env.locals) :
    Env0 X.prog X.w X.K X.mg (baseX X.base s.heap F.cl) X.A X.stack s H ∧ BE X.base (baseX X.base s.heap F.cl) ∧ Ev X.prog X.w X.K X.mg (baseX X.base s.heap F.cl) j F ws cs (fun as R E M => gl (as ++ cs) R E M) := by
  obtain ⟨q1, q2, q3⟩ := hfr F lm
  obtain ⟨_, _, hcl⟩ := id lm
  have cp : Caps X F.cl fr js := by rw [hcl]; exact Caps.made I.ok q1 q2 hjs
  have C := cells_of I cp
  rw [← hw] at C
  have e0 := I.env0
  have be := be_baseX (cl := F.cl) e0
  refine ⟨env0_more e0 fun y c e => ⟨(C.all y c e).1, fun hc => ?_⟩, be, lps, fr, gl, L _ be F lm, cellsB_of C, fun _ _ _ _ h => h⟩
  have e2 := cp.sub y c e
  rw [hst] at hc
  rw [frs, List.filterMap_cons, hff] at hc
  rcases List.mem_cons.mp hc with z | z
  · exact I.cne y c e2 z
  · obtain ⟨_, o, ho, _⟩ := I.ok.funs.mem z
    have hy : (y, NameKind.free) ∈ F.scope.names := by
      rw [hcl] at e
      rcases cloFrom_mem (PySem.mem_of_lookup e) with hm | ⟨h1, _⟩
      · cases hm
      · exact h1
    have := I.ok.cab y c (q3 _ hy rfl) e2
    exact Nat.lt_irrefl _ (Nat.lt_of_lt_of_le (Heap.lt_size ho) this)
theorem de_callH (dd : ∀ b, BE X.base b → DfH X.prog X.w X.K X.mg b x ps j k g) (hr : Room k X.A) (hG : X.A.guards = some []) (tk : Takes X W) (L : ∀ b, BE X.base b → ∀ F, LmOf X l F → LOk X.prog X.w X.K X.mg b j F lps fr gl)
    (hfr : ∀ F, LmOf X l F → (∀ y ∈ F.scope.names, y.2 = .free → X.env.scope.names.lookup y.1 = some .cell ∨ X.env.scope.names.lookup y.1 = some .free) ∧ (∀ y ∈ fr, (y, NameKind.free) ∈ F.scope.names) ∧ ∀ y ∈ F.scope.names, y.2 = .free → X.fn y.1 = true)
    (hjs : js.map (fun j => X.N[j]?) = fr.map some) (hst : X.stack = X.env :: X.outer) (hff : X.env.frame = some X.env.locals)
    (ha : DAL X W l js (e :: es) tl) (hg : Gl X x := by rfl)
    (hdb : (x == ("__debug__" : Str)) = false := by decide) (he : starEach (e :: es) X.env = (false, eval e X.env) :: starEach es X.env := by rfl) (hpl : (backTo pos (starEach es X.env)).any (·.1) = false := by rfl) :
    DE X W (.Call (.Name x p) (e :: es) [] pos) (dCallH g gl tl) := by
  obtain ⟨f, fd0, hm, hk, _, _⟩ := (dd X.base .refl).ex
  refine ⟨fun pins s σ H Q I ⟨z, ρ, M, R, E, hs, hm2, h, hc, hE⟩ => ?_⟩
  refine wpAny_Call_Name_kw (ld_glob I hg hm ?_ hdb)
  refine PySem.W.callWith_K (h₀ := X.base) I.ok.mod.kin hk (thn (ha.run pos pins s σ H (fun vs H1 => ∃ F0 ws cs, LmOf X l F0 ∧ ws.map some = js.map (NdefX.slotAt σ) ∧ spD X.K (g F0 ws cs fun as R E M => gl (as ++ cs) R E M) vs H1 Q fun cls d H' => W cls d σ H') I
    ⟨z, ρ, M, _, E, hs, hm2, h, fun ds cs M1 vs ws F0 f0 H1 h1 m1 r1 rf lm hw e1 => ⟨F0, ws, cs, lm, hw, z, ds ++ [.clo F0 ws cs], M1, R, _, r1.append (.cons rf .nil), m1, h1 F0 ws, hc.ext e1, fun x M' cls d H' a b c f => hE x ρ M' cls d σ H' a b (hs.ext (e1.trans f)) c (e1.trans f)⟩, hE⟩) fun us s1 ⟨vs, H1, I1, r, F0, ws, cs, lm, hw, q⟩ => ⟨I1.kIn, ?_⟩) he hpl
  obtain ⟨ee, be, ev⟩ := ev_of (cs := cs) I1 L lm hfr hjs hw hst hff
  obtain ⟨f', fd, hm', _, hb, F⟩ := (dd _ be).ex
  have : f' = f := by rw [hm] at hm'; cases hm'; rfl
  subst this
  have hl : us.length = ps.length := by
    obtain ⟨z, ds, M1, R1, RE, ra, _, gg, _⟩ := q
    rw [← r.length, ra.length]
    exact F.len _ _ _ _ _ _ _ _ gg
  have bb := hb s1 us I1.kIn (by rw [List.append_nil]; exact hl)
  rw [List.append_nil] at bb
  refine wpAny_call (codeAny_mono (F.run F0 ws cs _ X.A X.stack s1 H1 ⟨us, []⟩ us vs Q _ hr hG ee ev bb r q) fun res s' hq => ?_)
  cases res with
  | error e' => exact passAt tk σ pins H1 s1 e' s' I1 hq
  | ok fl =>
    cases fl with
    | ret u => exact I1.after hq
    | next => exact False.elim hq
    | brk => exact False.elim hq
    | cont => exact False.elim hq
/-- a(..), a the function that was handed on -/
def dCallC (F : LFn) (ws : List V) (cs : List D) (φ : G) (tv : DTE) (t : DTA) : DTE := fun ρ R E M => tv ρ (fun d M1 => d = .clo F ws cs ∧ t ρ (fun ds M2 => φ ds R (fun x M' => E x ρ M') M2) E M1) E M
theorem v_callC {F : LFn} {ws : List V} {cs : List D} {φ : G} {tv : DTE} {t : DTA} {ρ : Sl} {R : PD} {E : XP} {M : MS} : dCallC F ws cs φ tv t ρ R E M = tv ρ (fun d M1 => d = .clo F ws cs ∧ t ρ (fun ds M2 => φ ds R (fun x M' => E x ρ M') M2) E M1) E M := (rfl)
theorem callC_end {F : LFn} {ws : List V} {cs : List D} {φ : G} {f : Addr} {pins : List (Addr × Obj)} {σ : St} {ρ : Sl} {H2 : Hp} {s2 : Shared} {Q : VK} {us : List Value} {vs : List V} {z : Hd} {M2 : MS} {ds : List D} {R : PD} {E : XP}
    (ev : Ev X.prog X.w X.K X.mg X.base j F ws cs φ) (hr : Room j X.A) (hG : X.A.guards = some []) (tk : Takes X W) (I2 : Inv X pins σ H2 s2) (r : Vals vs us) (m2 : RelM ⟨X.K, z⟩ H2 M2) (hs : RelS ⟨X.K, z⟩ H2 M2 σ ρ) (ra : RelA ⟨X.K, z⟩ H2 M2 vs ds)
    (rf : Rel ⟨X.K, z⟩ H2 M2 (.ref f) (.clo F ws cs)) (q : φ ds R (fun x M' => E x ρ M') M2) (hc : Cont ⟨X.K, z⟩ H2 M2 R Q) (hE : XOk ⟨X.K, z⟩ H2 M2 W E) : wpAny (model X.prog X.w) X.A (call (.ref f) us) (EP X pins σ Q) X.xe s2 := by
  obtain ⟨lps, fr, gl, L, C, hφ⟩ := ev.ex
  cases rf with
  | clo f1 f2 rc =>
    have C2 := C.at' I2
    have sp : spD X.K gl (vs ++ ws) H2 Q fun cls d H' => W cls d σ H' := ⟨z, ds ++ cs, M2, R, _, ra.append rc, m2, hφ _ _ _ _ q, hc, fun x M' cls d H' a b c f => hE x ρ M' cls d σ H' a b (hs.ext f) c f⟩
    refine wpAny_call (codeAny_mono (L.run f X.A X.stack s2 H2 us vs ws Q _ hr hG I2.env0 f1.2 f2.2 C2 r sp) fun res s' hq => ?_)
    cases res with
    | error e' => exact passAt tk σ pins H2 s2 e' s' I2 hq
    | ok fl =>
      cases fl with
      | ret u => exact I2.after hq
      | next => exact False.elim hq
      | brk => exact False.elim hq
      | cont => exact False.elim hq
theorem fnL_fnAt {pins : List (Addr × Obj)} {σ : St} {H : Hp} {s : Shared} {f : Addr} {F : LFn} (I : Inv X pins σ H s) (e : H f = some (FnL f F)) : PySem.W.FnAt f s.heap := by
  obtain ⟨pm, ctv, ho⟩ := fnL_at I.hok e
  exact ⟨_, _, _, _, ho⟩
theorem de_callC {F : LFn} {ws : List V} {cs : List D} {φ : G} {tv : DTE} (ev : Ev X.prog X.w X.K X.mg X.base j F ws cs φ) (hr : Room j X.A) (hG : X.A.guards = some []) (tk : Takes X W) (hv : DE X W (.Name a p) tv) (ha : DA X W (e :: es) t)
    (he : starEach (e :: es) X.env = (false, eval e X.env) :: starEach es X.env := by rfl) (hpl : (backTo pos (starEach es X.env)).any (·.1) = false := by rfl) :
    DE X W (.Call (.Name a p) (e :: es) [] pos) (dCallC F ws cs φ tv t) := by
  refine ⟨fun pins s σ H Q I ⟨z, ρ, M, R, E, hs, hm2, h, hc, hE⟩ => ?_⟩
  refine wpAny_Call_Name_kw (thn (hv.run pins s σ H (fun v H1 => ∃ f M1, v = .ref f ∧ RelM ⟨X.K, z⟩ H1 M1 ∧ Rel ⟨X.K, z⟩ H1 M1 (.ref f) (.clo F ws cs) ∧ Ext ⟨X.K, z⟩ H M H1 M1 ∧ t ρ (fun ds M2 => φ ds R (fun x M' => E x ρ M') M2) E M1) I
    ⟨z, ρ, M, _, E, hs, hm2, h, fun d M1 v H1 h1 m1 r1 e1 => by
      obtain ⟨rfl, h2⟩ := h1
      cases r1 with
      | clo q1 q2 q3 => exact ⟨_, M1, rfl, m1, .clo q1 q2 q3, e1, h2⟩, hE⟩) fun u s1 ⟨v, H1, I1, ru, f, M1, ev1, m1, rf, e1, h1⟩ => ?_)
  subst ev1
  obtain rfl : u = Value.ref f := ru
  have hf1 : PySem.W.FnAt f s1.heap := by cases rf with | clo q1 _ _ => exact fnL_fnAt I1 q1.2
  refine PySem.W.callWith_F (first := []) hf1 (thn (ha.run pos pins s1 σ H1 (fun vs H2 => ∃ ds M2, RelM ⟨X.K, z⟩ H2 M2 ∧ RelS ⟨X.K, z⟩ H2 M2 σ ρ ∧ RelA ⟨X.K, z⟩ H2 M2 vs ds ∧ Rel ⟨X.K, z⟩ H2 M2 (.ref f) (.clo F ws cs) ∧ φ ds R (fun x M' => E x ρ M') M2 ∧ Cont ⟨X.K, z⟩ H2 M2 R Q ∧ XOk ⟨X.K, z⟩ H2 M2 W E) I1
    ⟨z, ρ, M1, _, E, hs.ext e1, m1, h1, fun ds M2 vs H2 h2 m2 r2 e2 => ⟨ds, M2, m2, hs.ext (e1.trans e2), r2, e2 _ _ rf, h2, hc.ext (e1.trans e2), hE.ext (e1.trans e2)⟩, hE.ext e1⟩) fun us s2 ⟨vs, H2, I2, r, ds, M2, m2, hs2, ra, rf2, q, hc2, hE2⟩ => ⟨by cases rf2 with | clo q1 _ _ => exact fnL_fnAt I2 q1.2, ?_⟩) he hpl
  exact callC_end ev hr hG tk I2 r m2 hs2 ra rf2 q hc2 hE2
theorem de_callC0 {F : LFn} {ws : List V} {cs : List D} {φ : G} {tv : DTE} (ev : Ev X.prog X.w X.K X.mg X.base j F ws cs φ) (hr : Room j X.A) (hG : X.A.guards = some []) (tk : Takes X W) (hv : DE X W (.Name a p) tv) :
    DE X W (.Call (.Name a p) [] [] pos) (dCallC F ws cs φ tv dNil) := by
  refine ⟨fun pins s σ H Q I ⟨z, ρ, M, R, E, hs, hm2, h, hc, hE⟩ => ?_⟩
  refine wpAny_Call_Name_kw (thn (hv.run pins s σ H (fun v H1 => ∃ f M1, v = .ref f ∧ RelM ⟨X.K, z⟩ H1 M1 ∧ Rel ⟨X.K, z⟩ H1 M1 (.ref f) (.clo F ws cs) ∧ Ext ⟨X.K, z⟩ H M H1 M1 ∧ φ [] R (fun x M' => E x ρ M') M1) I
    ⟨z, ρ, M, _, E, hs, hm2, h, fun d M1 v H1 h1 m1 r1 e1 => by
      obtain ⟨rfl, h2⟩ := h1
      cases r1 with
      | clo q1 q2 q3 => exact ⟨_, M1, rfl, m1, .clo q1 q2 q3, e1, h2⟩, hE⟩) fun u s1 ⟨v, H1, I1, ru, f, M1, ev1, m1, rf, e1, h1⟩ => ?_)
  subst ev1
  obtain rfl : u = Value.ref f := ru
  have hf1 : PySem.W.FnAt f s1.heap := by cases rf with | clo q1 _ _ => exact fnL_fnAt I1 q1.2
  refine PySem.W.callWith_F0 (first := []) hf1 ?_
  exact callC_end ev hr hG tk I1 .nil m1 (hs.ext e1) .nil rf h1 (hc.ext e1) (hE.ext e1)
end
/-! ### defs in which functions are made -/
abbrev lamQ (x : Str) : Str := (x ++ (".<locals>." : Str)) ++ ("<lambda>" : Str)
/-- where the code objects of a def's functions are kept -/
structure Mk (mg : Str → Option Value) (x : Str) (base : Heap) (c : Addr) : Prop where
  ex : ∃ P, TabB base mg c P ∧ (P, fun _ _ => lamQ x) ∈ Tbs.T ∧ ∀ p ∈ Tbs.T, p.1 = P → p.2 = fun _ _ => lamQ x
theorem Mk.be {mg : Str → Option Value} {x : Str} {b b' : Heap} {c : Addr} (m : Mk mg x b c) (h : BE b b') : Mk mg x b' c := let ⟨P, h1, h2, h3⟩ := m.ex; ⟨P, TabB.be h1 h, h2, h3⟩
theorem lamAt_of {X : Cx} {x : Str} {c : Addr} {params : Arguments} {body : Expr} {scope : Scope} {pos : Pos} {fr : List Str} (m : Mk X.mg x X.base c) (hcode : X.env.code = .ref c) (hq : X.env.qual = x ++ (".<locals>." : Str)) (hdef : defaultsOf params X.env = ([], [])) (hB : ndefB X.env.scope scope fr = true) :
    LamAt X (.Lambda params body scope pos) :=
  let ⟨P, h1, h2, h3⟩ := m.ex
  ⟨_, _, _, _, rfl, hdef, ndef_free hB, c, P, _, h1, hcode, h2, by rw [hq], h3⟩
theorem hfr_of {X : Cx} {params : Arguments} {body : Expr} {scope : Scope} {pos : Pos} {fr : List Str} (hB : ndefB X.env.scope scope fr = true) (hfn : ∀ y, X.fn y = true) :
    ∀ F, LmOf X (.Lambda params body scope pos) F → (∀ y ∈ F.scope.names, y.2 = .free → X.env.scope.names.lookup y.1 = some .cell ∨ X.env.scope.names.lookup y.1 = some .free) ∧ (∀ y ∈ fr, (y, NameKind.free) ∈ F.scope.names) ∧ ∀ y ∈ F.scope.names, y.2 = .free → X.fn y.1 = true := by
  rintro F ⟨_, e, _⟩
  obtain ⟨q, p, b, sc, cl, c⟩ := F
  cases e
  exact ⟨ndef_free hB, ndef_fr hB, fun y _ _ => hfn y.1⟩
section
variable {P : Program} {w : World} {K : PySem.W.Frag} {mg : Str → Option Value} {base : Heap}
theorem FnD.ofC {c : Addr} {x qual : Str} {st : Stmt} {f : Addr} {fd : FuncData} {N ps : List Str} {k : Nat} {g : G} {tb : DTS} (F : L2.Fun K x qual st f fd) (S : FnScope N ps (defScope st)) (len : ∀ ds R E M, g ds R E M → ds.length = ps.length)
    (hcc : fd.code = .ref c)
    (hb : ∀ (A : Around) (outer : List Env) (s : Shared) (H : Hp) (E : XK), Room k (A.deeper (envOfC qual (defScope st) s.heap.objs.size f (.ref c))) → (A.deeper (envOfC qual (defScope st) s.heap.objs.size f (.ref c))).guards = some [] →
      DSs (cxOf (L2.CX P w) P w K mg base N qual (defScope st) f (.ref c) A outer s H E) (WB E) (defBody st) tb)
    (hg : ∀ ds R RE M, g ds R RE M → tb (ends R RE) (startD N ds) M) : FnD P w K mg base (k + 1) f fd ps g := by
  obtain ⟨oc, od, kV, doc, pm, an, cdv, ct, osl, rfl, lk, hcd⟩ := F.ex
  obtain rfl : cdv = .ref c := hcc
  refine ⟨len, fun A outer s H args us vs Q E hr hG e0 hbd r hsp => ?_⟩
  obtain ⟨z, ds, M, R, RE, ra, rm, hgg, hcont, hex⟩ := hsp
  have hl : vs.length = ps.length := ra.length.trans (len _ _ _ _ hgg)
  have nl : ds.length ≤ N.length := by
    have z := congrArg List.length S.pre
    rw [List.length_take] at z
    have z2 := len _ _ _ _ hgg
    omega
  have kx : K.In s.heap := e0.mod.kin.keeps fun b o e => (e0.bs b o e).1
  have nolim : s.heap.NoLimit := e0.mod.nolimit.keeps fun b o e => (e0.bs b o e).1
  have kinds : ∀ y ∈ ps.zip us, (defScope st).names.lookup y.1 = some .local ∨ ((defScope st).names.lookup y.1 = some .cell ∧ ((cellsFrom (s.heap.objs.size + 1) (defScope st).names []).lookup y.1).isSome = true) := by
    rintro ⟨n, v⟩ hy
    rcases S.par n (List.of_mem_zip hy).1 with q | q
    · exact .inl q
    · exact .inr ⟨q, PySem.W.cellsFrom_some _ _ _ (.inl q)⟩
  refine codeAny_call_function hr.depth (kx _ _ lk) rfl S.co S.gen rfl (PySem.W.codeRec_of kx hcd) (hbd _ _ _ _ ?_)
  refine wpAny_newFunctionEnv_cells S.kind kinds fun env he s1 xc => ?_
  subst he
  refine ⟨nolim.keeps xc.toInCall.keep, codeAny_func ?_⟩
  have T := hb A outer s H E (hr.deeper _) hG
  have I : Inv (cxOf (L2.CX P w) P w K mg base N qual (defScope st) f (.ref c) A outer s H E) [] (L2.start N vs) H s1 := inv_start S hr.hd e0 hl r xc
  have reading : liftS K (WB E) tb { nx := fun _ H' => Q .non H', rt := Q } (L2.start N vs) H := by
    refine ⟨z, startD N ds, M, ends R RE, relS_start ra nl, rm, hg ds R RE M hgg, ?_, ?_, ?_, ?_, ?_⟩
    · rintro ρ' M' σ' H' ⟨d', M2, wk, q⟩ m s e
      exact hcont d' M2 .non H' q (m.le wk.1) (wk.2 _ H' _ m .non) (e.trans (Ext.le wk.1))
    · rintro d M' v H' ⟨d', M2, wk, q⟩ m r e
      exact hcont d' M2 v H' q (m.le wk.1) (wk.2 _ H' _ m r) (e.trans (Ext.le wk.1))
    · intro _ _ _ _ q
      exact q.elim
    · intro _ _ _ _ q
      exact q.elim
    · rintro x ρ' M' cls d σ' H' ⟨M2, l, q⟩ m s rx e
      exact hex x M2 cls d H' q (m.le l) (relX_le l rx) (e.trans (Ext.le l))
  refine wpAny_mono (T.run [] s1 (L2.start N vs) H _ I reading) (fun fl s' hs => ?_) fun e s' hs => hs
  have fin : ∀ {σ' : St} {H' : Hp} {v : V} {u : Value}, Inv (cxOf (L2.CX P w) P w K mg base N qual (defScope st) f (.ref c) A outer s H E) [] σ' H' s' → RelV v u → Q v H' → CE outer P w H s Q u s' :=
    fun {σ' H' v u} J rv q => ⟨v, H', J.os, J.bare, J.base, J.hok, rv, q⟩
  cases fl with
  | ret u =>
    obtain ⟨v, σ', H', J, rv, q⟩ := hs
    exact fin J rv q
  | next =>
    obtain ⟨σ', H', J, q⟩ := hs
    exact fin (v := .non) (u := .none) J rfl q
  | brk => exact (let ⟨_, _, _, q⟩ := hs; q.elim)
  | cont => exact (let ⟨_, _, _, q⟩ := hs; q.elim)
/-- a def of the text whose code object is known -/
structure TxC (K : PySem.W.Frag) (mg : Str → Option Value) (x : Str) (st : Stmt) (c : Addr) : Prop where
  ex : ∃ f fd, mg x = some (.ref f) ∧ L2.Fun K x x st f fd ∧ fd.code = .ref c
theorem Df.ofC {c : Addr} {x : Str} {st : Stmt} {N ps : List Str} {k : Nat} {g : G} {tb : DTS} (T : TxC K mg x st c) (S : FnScope N ps (defScope st))
    (bd : ∀ (kV doc pm : Value) (an : Option Addr) (cdv ct : Value) (us : List Value), us.length = ps.length → bindArgs (PySem.W.fnOf x x (defArgs st) (defBody st) (defScope st) .none kV doc pm an cdv ct) ⟨us, []⟩ = pure (ps.zip us))
    (len : ∀ ds R E M, g ds R E M → ds.length = ps.length)
    (hb : ∀ (f : Addr) (A : Around) (outer : List Env) (s : Shared) (H : Hp) (E : XK), Room k (A.deeper (envOfC x (defScope st) s.heap.objs.size f (.ref c))) → (A.deeper (envOfC x (defScope st) s.heap.objs.size f (.ref c))).guards = some [] →
      DSs (cxOf (L2.CX P w) P w K mg base N x (defScope st) f (.ref c) A outer s H E) (WB E) (defBody st) tb)
    (hg : ∀ ds R RE M, g ds R RE M → tb (ends R RE) (startD N ds) M) : Df P w K mg base x ps (k + 1) g := by
  obtain ⟨f, fd, h1, F, hcc⟩ := T.ex
  exact ⟨f, fd, h1, F.kp, F.binds bd, FnD.ofC F S len hcc (hb f) hg⟩
theorem DfH.mono {x : Str} {ps : List Str} {j k k' : Nat} {g : GH} (D : DfH P w K mg base x ps j k g) (h : k ≤ k') : DfH P w K mg base x ps j k' g := by
  obtain ⟨f, fd, h1, h2, h3, F⟩ := D.ex
  exact ⟨f, fd, h1, h2, h3, F.len, fun F0 ws cs φ A outer s H args us vs Q E hr => F.run F0 ws cs φ A outer s H args us vs Q E (hr.mono h)⟩
end
/-- a proof that a contract over a handed function is kept -/
def HgH (g : GH) (tb : LFn → List V → List D → G → DTS) (N : List Str) : Prop := ∀ F ws cs φ ds R RE M, g F ws cs φ ds R RE M → tb F ws cs φ (ends R RE) (startD N ds) M
/-- .. over what is captured -/
def HgL (g : G) (te : DTE) (N : List Str) : Prop := ∀ ds R RE M, g ds R RE M → te (startD N ds) (Rw R) (fun x _ M' => ∃ M2, Le M2 M' ∧ RE x M2) M
end L2.DL
/-! DLzn: the law's end where functions are made (tables of code objects) -/
namespace L2.DL
open PySem PySem.Spec PyProof.Rows LamX
variable [Tbs]
theorem law_endT {P : Program} {w : World} {K : PySem.W.Frag} {mg mb : Str → Option Value} {k : Nat} {fa a : Addr} {cs : List (Addr × Addr)} {fd : FuncData} {x : Str} {g : G} {s₁ : Shared} {vs : List Value} {ns : List Int}
    (KX : K.In s₁.heap) (hns : s₁.heap.Ns mainGlobals mg) (hb : s₁.heap.Ns builtinsNs mb) (hbb : ∀ x : Str, x ≠ "__name__" → mb x = bootBuiltins x) (hlim : s₁.heap.NoLimit) (hg : s₁.gens = #[])
    (hT : ∀ p ∈ cs, s₁.heap.get? p.2 = some { cls := .none, data := .fields #[] }) (nT : ∀ p ∈ cs, K.lookup p.2 = none) (C : ∀ p ∈ cs, PySem.W.CodeHd s₁.heap p.1 p.2) (hTT : ∀ p ∈ Tbs.T, ∃ q ∈ cs, q.2 = p.1)
    (hbm : ∃ (bm : Addr) (ob : Obj), mg "__builtins__" = some (.ref bm) ∧ bm ≠ builtinsNs ∧ s₁.heap.get? bm = some ob ∧ ob.cls = .type "module" ∧ ob.dict = some builtinsNs ∧ ob.data = .plain)
    (ha : s₁.heap.get? a = some { cls := .type "list", data := .seq vs.toArray }) (hi : IntsAre vs ns) (hl : ns.length ≤ 63) (hr : Room k callerA)
    (F : ∀ base : Heap, K.In base → base.Ns mainGlobals mg → (∀ p ∈ cs, TabB base mg p.1 p.2) → FnD P w K mg base k fa fd [x] g) (hbind : ∀ (s : Shared) (u : Value), BindsTo s fd ⟨[u], []⟩ [(x, u)]) (hgl : g [.scr ns] (fun d _ => d = .bl true) (fun _ _ => False) (fun _ => none)) :
    codeAny (model P w) callerA (.call (.ref fa) ⟨[.ref a], []⟩) (fun r s' => r = .ok (.ret (.bool true)) ∧ OldK s₁.heap s'.heap ∧ s'.os = s₁.os ∧ AllBare s'.gens) s₁ := by
  have hl2 : ns.length ≤ sizeLine := Nat.le_trans hl (by decide)
  have rv := vals_ints hi
  have lenV := hi.length
  have isT : ∀ b : Addr, b ∈ cs.map (·.2) → s₁.heap.get? b = some { cls := .none, data := .fields #[] } := fun b hb => by
    obtain ⟨p, hp, e⟩ := List.mem_map.mp hb
    rw [← e]
    exact hT p hp
  have aT : a ∉ cs.map (·.2) := fun z => by
    have q := isT a z
    rw [ha] at q
    have z' : Data.seq vs.toArray _ = Data.fields #[] := congrArg Obj.data (Option.some.inj q)
    cases z'
  have memT : ∀ p ∈ cs, p.2 ∈ cs.map (·.2) := fun p hp => List.mem_map.mpr ⟨p, hp, rfl⟩
  -- from an abstract heap in which nothing but the script and the tables may be tracked
  have core : ∀ H : Hp, (∀ p ∈ cs, H p.2 = some (.tbl #[])) → (∀ b, H b = none ∨ b ∈ cs.map (·.2) ∨ ∃ o xs, H b = some (.frz o (.lst xs))) → Sc K H a (ns.map V.int) → HOk P w H s₁.heap → (∀ b, H b ≠ none → b = a ∨ b ∈ cs.map (·.2)) → (H a ≠ none → K.lookup a = none) →
      codeAny (model P w) callerA (.call (.ref fa) ⟨[.ref a], []⟩) (fun r s' => r = .ok (.ret (.bool true)) ∧ OldK s₁.heap s'.heap ∧ s'.os = s₁.os ∧ AllBare s'.gens) s₁ := by
    intro H hH hO hS hok hA hK
    have base_of : ∀ {b : Addr} {o : Obj}, s₁.heap.get? b = some o → H b = none → (hidT s₁.heap H).get? b = some o := fun e n => hidT_get e n
    have noD : ∀ {b : Addr} {o : Obj}, s₁.heap.get? b = some o → (∀ vs n, o.data ≠ .seq vs n) → o.data ≠ .fields #[] → H b = none := fun {b o} e h1 h2 => by
      cases q : H b with
      | none => rfl
      | some u =>
        rcases hA b (by rw [q]; simp) with e' | e'
        · rw [e', ha] at e
          cases e
          exact (h1 _ _ rfl).elim
        · rw [isT b e'] at e
          cases e
          exact (h2 rfl).elim
    have noA : ∀ {b : Addr} {o : Obj} {es : Array DictEntry} {ep : Nat}, s₁.heap.get? b = some o → o.data = .dict es ep → H b = none := fun {b o es ep} e d => by
      refine noD e (fun vs n z => ?_) fun z => ?_
      · rw [d] at z
        cases z
      · rw [d] at z
        cases z
    have nsK : ∀ {b : Addr} {m : Str → Option Value}, s₁.heap.Ns b m → (hidT s₁.heap H).Ns b m := fun {b m} ⟨o, es, ep, e, d, r⟩ => ⟨o, es, ep, base_of e (noA e d), d, r⟩
    have hKb : K.In (hidT s₁.heap H) := fun b o e => base_of (KX b o e) (by
      cases q : H b with
      | none => rfl
      | some u =>
        rcases hA b (by rw [q]; simp) with e' | e'
        · rw [e'] at e q
          rw [hK (by rw [q]; simp)] at e
          cases e
        · obtain ⟨p, hp, ep⟩ := List.mem_map.mp e'
          rw [← ep, nT p hp] at e
          cases e)
    have hM : L2.Mod K mg (hidT s₁.heap H) := ⟨hKb, nsK hns, ⟨mb, nsK hb, hbb⟩, let ⟨mc, h1, h2⟩ := hlim; ⟨mc, nsK h1, h2⟩⟩
    have TB : ∀ p ∈ cs, TabB (hidT s₁.heap H) mg p.1 p.2 := fun p hp => by
      have hTp := hT p hp
      refine ⟨?_, ?_, fun z => ?_⟩
      · obtain ⟨o, us, file, tf, flags, tg, inF, text, tt, e1, r1, r2, r3, r4, r5, r6, r7, r8, hne⟩ := C p hp
        refine ⟨o, us, file, tf, flags, tg, inF, text, tt, base_of e1 (noD e1 (fun vs n z => ?_) fun z => ?_), r1, r2, r3, r4, r5, r6, r7, r8, hne⟩
        · rw [r2] at z
          cases z
        · rw [r2] at z
          cases z
          simp at r3
      · obtain ⟨bm, ob, b1, b2, b3, b4, b5, b6⟩ := hbm
        have nG : bm ≠ mainGlobals := fun q => by
          obtain ⟨o, es, ep, e, hd, _⟩ := hns
          rw [q, e] at b3
          cases b3
          rw [hd] at b6
          cases b6
        have nP : bm ≠ p.2 := fun q => by
          rw [q, hTp] at b3
          cases b3
          cases b6
        refine ⟨bm, ob, b1, b2, nG, nP, base_of b3 (noD b3 (fun vs n z => ?_) fun z => ?_), b4, b5, b6⟩
        · rw [b6] at z
          cases z
        · rw [b6] at z
          cases z
      · obtain ⟨o, es, ep, e, hd, _⟩ := hns
        rw [z, hTp] at e
        cases e
        cases hd
    have e0 : Env0 P w K mg (hidT s₁.heap H) callerA [] s₁ H := ⟨rfl, hM, fun b o e => of_hidT e, Nat.le_of_eq (hidT_size _ _), trivial, fun b hb => absurd (show b ∈ ([] : List Addr) from hb) (by simp), hok, .of_eq hg⟩
    have sp : spD K g [.ref a] H (fun v _ => v = .bl true) (fun _ _ _ => False) := by
      refine ⟨fun _ => none, [.scr ns], fun _ => none, _, _, .cons (.scr hS) .nil, ⟨fun b mo e => by simp at e, fun b ws e => by simp at e, fun p hp => ?_⟩, hgl, ?_, ?_⟩
      · obtain ⟨q, hq, eq⟩ := hTT p hp
        exact ⟨#[], ⟨⟨rfl, rfl⟩, by rw [← eq]; exact hH q hq⟩, True.intro, fun pos cv hc => by
          have z : codeAmong pos [] = some cv := hc
          simp [codeAmong] at z⟩
      · rintro d M' v H' rfl m r e
        cases r
        rfl
      · intro x M' cls d H' f
        exact f.elim
    refine codeAny_mono ((F _ hKb (nsK hns) TB).run callerA [] s₁ H ⟨[.ref a], []⟩ [.ref a] [.ref a] _ _ hr rfl e0 (hbind s₁ (.ref a)) (.cons rfl .nil) sp) fun r s' h => ?_
    cases r with
    | error e =>
      obtain ⟨_, _, _, _, _, _, _, _, _, _, _, _, f⟩ := h
      exact f.elim
    | ok fl =>
      cases fl with
      | next => exact False.elim h
      | brk => exact False.elim h
      | cont => exact False.elim h
      | ret u =>
        obtain ⟨v, H', os, bare, un, hok', r', q⟩ := h
        have q' : v = .bl true := q
        subst q'
        obtain rfl : u = Value.bool true := r'
        have key : ∀ b o, b ∉ cs.map (·.2) → s₁.heap.get? b = some o → s'.heap.get? b = some o := fun b o nb e => by
          cases q : H b with
          | none => exact un.keep b o e q (by intro z; exact absurd (show b ∈ ([] : List Addr) from z) (by simp)) (by simp)
          | some u =>
            rcases hO b with z | z | ⟨ob, xs, z⟩
            · rw [q] at z; cases z
            · exact absurd z nb
            · have z2 := un.frzs b ob _ z
              obtain ⟨e1, _⟩ := hok b _ z
              obtain ⟨e2, _⟩ := hok' b _ z2
              rw [e] at e1; cases e1
              exact e2
        have grown : ∀ p ∈ cs, ∃ more : Array Value, s'.heap.get? p.2 = some { cls := .none, data := .fields more } := fun p hp => by
          obtain ⟨more, z⟩ := un.tbls p.2 #[] (hH p hp)
          exact ⟨_, hok' p.2 _ z⟩
        refine ⟨rfl, ⟨fun b o e => ?_, fun b o e => ?_⟩, os, bare⟩
        · by_cases hb : b ∈ cs.map (·.2)
          · obtain ⟨p, hp, ep⟩ := List.mem_map.mp hb
            obtain ⟨more, hm⟩ := grown p hp
            rw [← ep] at e ⊢
            rw [hT p hp] at e
            cases e
            exact .inr (.inl ⟨((C p hp).tab (hT p hp)).isCodeTable, rfl, #[], more, rfl, by rw [Array.empty_append]; exact hm⟩)
          · exact .inl (key b o hb e)
        · by_cases hb : b ∈ cs.map (·.2)
          · obtain ⟨p, hp, ep⟩ := List.mem_map.mp hb
            obtain ⟨more, hm⟩ := grown p hp
            rw [← ep]
            exact ⟨_, hm⟩
          · exact ⟨o, key b o hb e⟩
  cases hk : K.lookup a with
  | some o =>
    have e := KX a o hk
    rw [ha] at e
    cases e
    refine core (fun b => if b ∈ cs.map (·.2) then some (.tbl #[]) else none) (fun p hp => if_pos (memT p hp)) (fun b => ?_) (.inr ⟨_, vs.toArray, _, hk, rfl, rfl, rfl, by rw [List.size_toArray, lenV]; exact hl2, by simpa using rv⟩) (fun b u z => ?_) (fun b z => ?_) fun z => absurd (show (if a ∈ cs.map (·.2) then some (HO.tbl #[]) else none) = none from if_neg aT) z
    · by_cases hb : b ∈ cs.map (·.2)
      · exact .inr (.inl hb)
      · exact .inl (if_neg hb)
    · by_cases hb : b ∈ cs.map (·.2)
      · have z' := (if_pos hb).symm.trans z
        cases z'
        exact isT b hb
      · have z' := (if_neg hb).symm.trans z
        cases z'
    · by_cases hb : b ∈ cs.map (·.2)
      · exact .inr hb
      · exact absurd (if_neg hb) z
  | none =>
    refine core (fun b => if b = a then some (.frz { cls := .type "list", data := .seq vs.toArray } (.lst (ns.map V.int))) else if b ∈ cs.map (·.2) then some (.tbl #[]) else none) (fun p hp => (if_neg (show ¬ p.2 = a from fun z => aT (by rw [← z]; exact memT p hp))).trans (if_pos (memT p hp))) (fun b => ?_)
      (.inl ⟨{ cls := .type "list", data := .seq vs.toArray }, if_pos rfl⟩) (fun b u z => ?_) (fun b z => ?_) fun _ => hk
    · by_cases hb : b = a
      · exact .inr (.inr ⟨_, _, if_pos hb⟩)
      · by_cases hb2 : b ∈ cs.map (·.2)
        · exact .inr (.inl hb2)
        · exact .inl ((if_neg hb).trans (if_neg hb2))
    · by_cases hb : b = a
      · have z' := (if_pos hb).symm.trans z
        cases z'
        rw [hb]
        exact ⟨ha, by rw [List.length_map]; exact hl2, vs, _, rv, ha⟩
      · have z1 := (if_neg hb).symm.trans z
        by_cases hb2 : b ∈ cs.map (·.2)
        · have z' := (if_pos hb2).symm.trans z1
          cases z'
          exact isT b hb2
        · have z' := (if_neg hb2).symm.trans z1
          cases z'
    · by_cases hb : b = a
      · exact .inl hb
      · by_cases hb2 : b ∈ cs.map (·.2)
        · exact .inr hb2
        · exact absurd ((if_neg hb).trans (if_neg hb2)) z
/-- what is known of the law's promise at the head's heap h -/
def LawT (l : PySem.W.OpenLaw) (w : World) (K : PySem.W.Frag) (k : Nat) (x : Str) (mg : Str → Option Value) (fa : Addr) (h : Heap) (g : G) : Prop :=
  ∃ (T : List NdefX.NTab) (fd : FuncData) (cs : List (Addr × Addr)), (∀ p ∈ cs, h.get? p.2 = some { cls := .none, data := .fields #[] }) ∧ (∀ p ∈ cs, K.lookup p.2 = none) ∧ (∀ p ∈ cs, PySem.W.CodeHd h p.1 p.2) ∧ (∀ p ∈ T, ∃ q ∈ cs, q.2 = p.1) ∧ (∀ (s : Shared) (u : Value), BindsTo s fd ⟨[u], []⟩ [(x, u)]) ∧
    ∀ base : Heap, K.In base → base.Ns mainGlobals mg → (∀ p ∈ cs, TabB base mg p.1 p.2) → @FnD ⟨T⟩ l.prog w K mg base k fa fd [x] g
omit [Tbs] in
theorem walkDT {l : PySem.W.OpenLaw} {k : Nat} {q : Program} {loose : List Str} {XP : (Str → Option Value) → Heap → Prop} {YP : World → Heap → Prop} {d : DefRec} {K : Params → PySem.W.Frag} {g : G} {x : Str}
    (hn : l.most = some 63) (hdf : d.params.defaults = []) (hr : Room k callerA) (hY : ∀ (w : World) (h : Heap), YP w h → (K w.params).In h)
    (F : ∀ (w : World) (mg : Str → Option Value) (fa : Addr) (h : Heap), YP w h → (K w.params).In h → h.Ns mainGlobals mg → mg d.name = some (.ref fa) → LawT l w (K w.params) k x mg fa h g) (hgl : gLawB g) :
    PySem.W.WalkO q loose XP YP l.row.toRowW d [] (fun f vs => PySem.call f vs) := by
  refine Att.attach_callB hn hdf fun w s₀ s₁ mg mb fa o pm cd doc a vs ns G Y ho hd hcd hmg hobj hints hlen hbits hg => ?_
  have KX := hY w _ Y
  obtain ⟨T, fd, cs, hT, nT, C, hTT, hb, hF⟩ := F w mg fa _ Y KX G.T.g hmg
  letI : Tbs := ⟨T⟩
  exact law_endT KX G.T.g G.T.b G.T.builtins G.T.nolimit hg hT nT C hTT G.T.bmain hobj hints hlen hr hF hb (hgl ns hlen hbits)
end L2.DL
/-! DLzq: dicts by whole numbers and texts: displays, d[k], d[k] = v, d.get(k, x); l.pop(), l.pop(i) -/
namespace L2.DL
open PySem PySem.Spec PyProof.Rows
variable [Tbs]
theorem room1 {k : Nat} {A : Around} (r : Room k A) : A.units + 1 < cLine := by have := r.un; omega
/-! displays -/
def dPairs : List (Key × DTE) → Sl → (List (Key × D) → MS → Prop) → XP → MS → Prop
  | [], _, R, _, M => R [] M
  | (k, te) :: r, ρ, R, E, M => te ρ (fun d M1 => dPairs r ρ (fun ps M2 => R ((k, d) :: ps) M2) E M1) E M
section
variable {X : Cx} {W : WX} {pos : Pos}
structure PPD (X : Cx) (W : WX) (pos : Pos) (keys : List (Option Expr)) (values : List Expr) (ts : List (Key × DTE)) : Prop where
  ex : ∃ trs, PPs X pos keys values trs ∧ ∀ (z : Hd) (ρ : Sl) (M : MS) (R : List (Key × D) → MS → Prop) (E : XP) (σ : St) (H : Hp) (Q : List (V × V) → Hp → Prop), RelS ⟨X.K, z⟩ H M σ ρ → RelM ⟨X.K, z⟩ H M → XOk ⟨X.K, z⟩ H M W E → dPairs ts ρ R E M →
    (∀ kvs M' ws H', R kvs M' → RelM ⟨X.K, z⟩ H' M' → RelK ⟨X.K, z⟩ H' M' ws kvs → kvs.map (·.1) = ts.map (·.1) → Ext ⟨X.K, z⟩ H M H' M' → Q (ws.map fun kv => (kV kv.1, kv.2)) H') → tPairs trs σ H Q
theorem ppd_nil : PPD X W pos [] [] [] := ⟨[], pps_nil, fun z ρ M R E σ H Q hs hm hx h c => c [] M [] H h hm .nil rfl .refl⟩
theorem ppd_cons {k : Key} {ke ve : Expr} {ks : List (Option Expr)} {vs : List Expr} {te : DTE} {ts : List (Key × DTE)} (hk : DE X W ke (dC (eK k))) (hv : DE X W ve te) (hr : PPD X W pos ks vs ts) : PPD X W pos (some ke :: ks) (ve :: vs) ((k, te) :: ts) := by
  obtain ⟨trs, hp, ad⟩ := hr
  refine ⟨_, pps_cons hk hv hp, fun z ρ M R E σ H Q hs hm hx h c => ?_⟩
  refine ⟨z, ρ, M, fun d M1 => d = eK k ∧ te ρ (fun d M1 => dPairs ts ρ (fun ps M2 => R ((k, d) :: ps) M2) E M1) E M1, E, hs, hm, ⟨rfl, h⟩, fun d M1 v H1 h1 m1 r1 e1 => ?_, hx⟩
  obtain ⟨rfl, h1⟩ := h1
  have ev := eK_rel r1
  subst ev
  refine ⟨z, ρ, M1, _, E, hs.ext e1, m1, h1, fun d M2 w H2 h2 m2 r2 e2 => ?_, hx.ext e1⟩
  refine ad z ρ M2 _ E σ H2 _ (hs.ext (e1.trans e2)) m2 (hx.ext (e1.trans e2)) h2 fun kvs M3 ws H3 h3 m3 r3 ek e3 => ?_
  exact c _ M3 ((k, w) :: ws) H3 h3 m3 (.cons (e3 _ _ r2) r3) (by rw [List.map_cons, List.map_cons, ek]) (e1.trans (e2.trans e3))
/-- {k: v, ..} -/
def dDisp (ts : List (Key × DTE)) : DTE := fun ρ R E M => ∀ p, M p = none → dPairs ts ρ (fun kvs M' => M' p = some (.dk []) ∧ R (.ref p) (um M' p (.dk kvs))) E (um M p (.dk []))
theorem any_keys {κ : Type} [DecidableEq κ] : ∀ {acc : List (κ × D)} {k : κ}, k ∉ acc.map (·.1) → (acc.any fun kv => decide (kv.1 = k)) = false
  | [], _, _ => rfl
  | a :: acc, k, h => by
    rw [List.any_cons, any_keys (fun z => h (List.mem_cons_of_mem _ z)), Bool.or_false]
    exact decide_eq_false fun e => h (by rw [← e]; exact List.mem_cons_self)
theorem mergeM_new {κ : Type} [DecidableEq κ] : ∀ (more acc : List (κ × D)), ((acc ++ more).map (·.1)).Nodup → mergeM acc more = acc ++ more
  | [], acc, _ => by show acc = acc ++ []; rw [List.append_nil]
  | kv :: more, acc, h => by
    have e : putM acc kv.1 kv.2 = acc ++ [kv] := by
      unfold putM
      rw [if_neg]
      rw [any_keys]
      · exact Bool.false_ne_true
      · intro hm
        rw [List.map_append, List.nodup_append] at h
        exact h.2.2 _ hm _ (List.mem_cons_self) rfl
    show mergeM (putM acc kv.1 kv.2) more = _
    rw [e, mergeM_new more (acc ++ [kv]) (by rw [List.append_assoc]; exact h), List.append_assoc]
    rfl
theorem de_disp {keys : List (Option Expr)} {values : List Expr} {ts : List (Key × DTE)} (h : PPD X W pos keys values ts) (hnd : (ts.map (·.1)).Nodup) (hl2 : ts.length ≤ 15) (hall : keys.all (·.isSome) = true := by rfl) (hl : keys.length = values.length := by rfl) (h0 : keys ≠ [] := by exact fun z => nomatch z)
    (h15 : keys.length ≤ 15 := by decide) : DE X W (.Dict keys values pos) (dDisp ts) := by
  obtain ⟨trs, hp, ad⟩ := h
  refine imp (pe_disp hp hall hl h0 h15) fun σ H Q ⟨z, ρ, M, R, E, hs, hm, h, hc, hE⟩ => fun p hn => ?_
  have m1 : RelM ⟨X.K, z⟩ (upd H p (.dK [])) (um M p (.dk [])) := relM_alloc hm hn ⟨[], upd_same, .nil⟩
  have x1 : Ext ⟨X.K, z⟩ H M (upd H p (.dK [])) (um M p (.dk [])) := ext_alloc hm hn
  refine ad z ρ _ _ E σ _ _ (hs.ext x1) m1 (hE.ext x1) (h p (hm.free hn)) fun kvs M' ws H' h2 m2 r2 ek e2 => ?_
  obtain ⟨e3, q⟩ := h2
  obtain ⟨vs0, eh, r0⟩ := m2.at' p _ e3
  cases r0
  refine ⟨eh, ws, rfl, by have := congrArg List.length ek; simp only [List.length_map] at this; rw [r2.length]; omega, ?_⟩
  have emm : mergeM [] kvs = kvs := mergeM_new kvs [] (by rw [List.nil_append, ek]; exact hnd)
  have x3 : Ext ⟨X.K, z⟩ H' M' (upd H' p (.dK (mergeK [] ws))) (um M' p (.dk kvs)) := ext_write m2 e3
  have rk : RelK ⟨X.K, z⟩ H' M' (mergeK [] ws) (mergeM [] kvs) := RelK.merge r2 .nil
  rw [emm] at rk
  exact hc _ _ _ _ q (relM_write m2 e3 ⟨_, upd_same, x3.keys rk⟩) (.ref p) (x1.trans (e2.trans x3))
def dDict0 : DTE := fun _ R _ M => ∀ p, M p = none → R (.ref p) (um M p (.dk []))
theorem de_dict0 : DE X W (.Dict [] [] pos) dDict0 :=
  imp pe_dnewK fun σ H Q ⟨z, ρ, M, R, E, hs, hm, h, hc, hE⟩ p hn =>
    hc _ _ _ _ (h p (hm.free hn)) (relM_alloc hm hn ⟨[], upd_same, .nil⟩) (.ref p) (ext_alloc hm hn)
end
/-! d[k] -/
def getKD : D → D → PD → MS → Prop
  | .ref a, i, R, M => ∃ k kvs d, i = eK k ∧ M a = some (.dk kvs) ∧ getM kvs k = some d ∧ R d M
  | _, _, _, _ => False
def dGetK (to ti : DTE) : DTE := fun ρ R E M => to ρ (fun o M1 => ti ρ (fun i M2 => getKD o i R M2) E M1) E M
def putKD : D → D → D → (MS → Prop) → MS → Prop
  | .ref a, i, d, q, M => ∃ k kvs, i = eK k ∧ M a = some (.dk kvs) ∧ kvs.length < sizeLine ∧ q (um M a (.dk (putM kvs k d)))
  | _, _, _, _, _ => False
def dPutK (te to ti : DTE) : DTS := fun De ρ M => te ρ (fun d M1 => to ρ (fun o M2 => ti ρ (fun i M3 => putKD o i d (fun M4 => De.nx ρ M4) M3) De.ex M2) De.ex M1) De.ex M
def get2KD : D → D → D → PD → MS → Prop
  | .ref a, i, x, R, M => ∃ k kvs, i = eK k ∧ M a = some (.dk kvs) ∧ R ((getM kvs k).getD x) M
  | _, _, _, _, _ => False
def isDk (M : MS) : D → Prop
  | .ref a => ∃ kvs, M a = some (.dk kvs)
  | _ => False
def dGet2K (to ti tx : DTE) : DTE := fun ρ R E M => to ρ (fun o M1 => isDk M1 o ∧ ti ρ (fun i M2 => tx ρ (fun x M3 => get2KD o i x R M3) E M2) E M1) E M
section
variable {X : Cx} {W : WX} {o i e x : Expr} {te to ti tx : DTE} {pos pos' apos : Pos}
theorem de_getK (hu : X.A.units + 1 < cLine) (ho : DE X W o to) (hi : DE X W i ti) (hs : NoSl i) : DE X W (.Subscript o i pos) (dGetK to ti) :=
  imp (pe_dget hu ho hi hs) fun σ H Q ⟨z, ρ, M, R, E, hs, hm, h, hc, hE⟩ =>
    ⟨z, ρ, M, _, E, hs, hm, h, fun oo M1 vo H1 h1 m1 r1 e1 => ⟨z, ρ, M1, _, E, hs.ext e1, m1, h1, fun ii M2 vi H2 h2 m2 r2 e2 => by
      have h2 : getKD oo ii R M2 := h2
      have r1' := e2 _ _ r1
      unfold getKD at h2
      split at h2
      · obtain ⟨k, kvs, d, rfl, ea, eg, q⟩ := h2
        obtain ⟨ws, eh, rk⟩ := m2.at' _ _ ea
        cases r1'
        have ev := eK_rel r2
        subst ev
        obtain ⟨v, e3, rv⟩ := rk.getS eg
        exact ⟨_, v, rfl, by rw [← e3]; exact DGet.k eh, hc _ _ _ _ q m2 rv (e1.trans e2)⟩
      · exact h2.elim, hE.ext e1⟩, hE⟩
theorem ds_putK (hu : X.A.units + 1 < cLine) (he : DE X W e te) (ho : DE X W o to) (hi : DE X W i ti) (hs : swapsWith e (some (.Subscript o i pos')) pos.line X.env = pure false := by rfl) : DS X W (.Assign [.Subscript o i pos'] e pos) (dPutK te to ti) :=
  impS (ps_dput hu ho hi he hs) fun De σ H ⟨z, ρ, M, Dd, hs, hm, h, L⟩ =>
    ⟨z, ρ, M, _, _, hs, hm, h, fun d M1 v H1 h1 m1 r1 e1 => ⟨z, ρ, M1, _, _, hs.ext e1, m1, h1, fun oo M2 vo H2 h2 m2 r2 e2 =>
      ⟨z, ρ, M2, _, _, hs.ext (e1.trans e2), m2, h2, fun ii M3 vi H3 h3 m3 r3 e3 => by
        have ro := e3 _ _ r2
        have rd := (e2.trans e3) _ _ r1
        have h3 : putKD oo ii d (fun M4 => Dd.nx ρ M4) M3 := h3
        cases oo with
        | ref a =>
          obtain ⟨k, kvs, rfl, ea, hl, q⟩ := h3
          obtain ⟨ws, eh, rk⟩ := m3.at' _ _ ea
          cases ro
          have ev := eK_rel r3
          subst ev
          have w : Ext ⟨X.K, z⟩ H3 M3 (upd H3 a (.dK (putK ws k v))) (um M3 a (.dk (putM kvs k d))) := ext_write m3 ea
          exact ⟨_, _, rfl, DPut.k eh (by rw [rk.length]; exact hl), L.nx _ _ _ _ q (relM_write m3 ea ⟨_, upd_same, w.keys (rk.put k rd)⟩) ((hs.ext (e1.trans (e2.trans e3))).ext w) (e1.trans (e2.trans (e3.trans w)))⟩
        | _ => exact (show False from h3).elim, L.ex.ext (e1.trans e2)⟩, L.ex.ext e1⟩, L.ex⟩
theorem getM_rel {κ : Type} [DecidableEq κ] {K : ZK} {H : Hp} {M : MS} {k : κ} : ∀ {ws : List (κ × V)} {kvs : List (κ × D)} {v : V} {d : D}, RelK K H M ws kvs → Rel K H M v d → Rel K H M ((valV ws k).getD v) ((getM kvs k).getD d)
  | _, _, v, d, .nil, r => r
  | _, _, v, d, .cons (k := k') (v := v') (d := d') (vs := vs) (ds := ds) a t, r => by
    by_cases c : k' = k
    · rw [valV_pos c, show getM ((k', d') :: ds) k = some d' by simp [getM, List.find?_cons, c]]
      exact a
    · rw [valV_neg c, show getM ((k', d') :: ds) k = getM ds k by simp [getM, List.find?_cons, c]]
      exact getM_rel t r
theorem de_get2K (hu : X.A.units + 1 < cLine) (ho : DE X W o to) (he : DE X W i ti) (hf : DE X W x tx) 
    (m : M2 X o "get" apos i x pos := by exact ⟨by rfl, by rfl, by rfl, by rfl⟩) : DE X W (.Call (.Attribute o "get" apos) [i, x] [] pos) (dGet2K to ti tx) :=
  imp (pe_dget2 hu ho he hf m) fun σ H Q ⟨z, ρ, M, R, E, hs, hm, h, hc, hE⟩ =>
    ⟨z, ρ, M, _, E, hs, hm, h, fun oo M1 vo H1 h1 m1 r1 e1 => by
      obtain ⟨hd, h1⟩ := h1
      have key : ∀ a kvs, oo = .ref a → M1 a = some (.dk kvs) → ∃ a', vo = .ref a' ∧ IsD H1 a' := by
        intro a kvs eo ea
        subst eo
        cases r1
        obtain ⟨ws, eh, rk⟩ := m1.at' _ _ ea
        exact ⟨_, rfl, .inl ⟨_, .inl eh⟩⟩
      obtain ⟨a, rfl, isd⟩ : ∃ a', vo = .ref a' ∧ IsD H1 a' := by
        cases oo with
        | ref a => obtain ⟨kvs, ea⟩ := hd; exact key a kvs rfl ea
        | _ => exact (show False from hd).elim
      refine ⟨a, rfl, isd, z, ρ, M1, _, E, hs.ext e1, m1, h1, fun ii M2 vi H2 h2 m2 r2 e2 => ⟨z, ρ, M2, _, E, hs.ext (e1.trans e2), m2, h2, fun xx M3 vx H3 h3 m3 r3 e3 => ?_, hE.ext (e1.trans e2)⟩, hE.ext e1⟩
      have h3 : get2KD oo ii xx R M3 := h3
      have r1' := (e2.trans e3) _ _ r1
      have r2' := e3 _ _ r2
      unfold get2KD at h3
      split at h3
      · obtain ⟨k, kvs, rfl, ea, q⟩ := h3
        obtain ⟨ws, eh, rk⟩ := m3.at' _ _ ea
        cases r1'
        have ev := eK_rel r2'
        subst ev
        exact ⟨_, DGet.k eh, hc _ _ _ _ q m3 (getM_rel rk r3) (e1.trans (e2.trans e3))⟩
      · exact h3.elim, hE⟩
end
/-! pop -/
def popD : D → List D → PD → MS → Prop
  | .ref a, [], R, M => ∃ ds y, M a = some (.lst (ds ++ [y])) ∧ R y (um M a (.lst ds))
  | _, _, _, _ => False
def popAtD : D → List D → PD → MS → Prop
  | .ref a, [.int i], R, M => ∃ ds y, M a = some (.lst ds) ∧ 0 ≤ i ∧ i < 2 ^ 63 ∧ ds[i.toNat]? = some y ∧ R y (um M a (.lst (ds.eraseIdx i.toNat)))
  | _, _, _, _ => False
theorem RelA.dropLast {K : ZK} {H : Hp} {M : MS} : ∀ {vs : List V} {ds : List D}, RelA K H M vs ds → RelA K H M vs.dropLast ds.dropLast
  | _, _, .nil => .nil
  | _, _, .cons _ .nil => .nil
  | _, _, .cons r (.cons r2 t) => .cons r (RelA.dropLast (.cons r2 t))
theorem RelA.eraseIdx {K : ZK} {H : Hp} {M : MS} : ∀ {vs : List V} {ds : List D} (n : Nat), RelA K H M vs ds → RelA K H M (vs.eraseIdx n) (ds.eraseIdx n)
  | _, _, _, .nil => .nil
  | _, _, 0, .cons _ t => t
  | _, _, n + 1, .cons r t => .cons r (RelA.eraseIdx n t)
theorem m_pop {X : Cx} : MtD X "list.pop" popD := by
  refine ⟨_, mt_pop, fun z H M x xs v vs R Q m rx ra h hc => ?_⟩
  unfold popD at h
  split at h
  · cases rx
    cases ra
    obtain ⟨ds, y, ea, q⟩ := h
    obtain ⟨ws, e1, r⟩ := m.at' _ _ ea
    have hg : (ds ++ [y])[ws.length - 1]? = some y := by
      rw [r.length, List.length_append, List.length_singleton, Nat.add_sub_cancel, List.getElem?_append_right (Nat.le_refl _), Nat.sub_self]
      rfl
    obtain ⟨u, eu, ru⟩ := r.get hg
    have rd := r.dropLast
    rw [List.dropLast_concat] at rd
    exact ⟨_, ws, u, rfl, rfl, e1, eu, hc _ _ _ _ q (write_lst m ea rd) ((ext_write m ea) _ _ ru) (ext_write m ea)⟩
  · exact h.elim
theorem m_popAt {X : Cx} : MtD X "list.pop" popAtD := by
  refine ⟨_, mt_popAt, fun z H M x xs v vs R Q m rx ra h hc => ?_⟩
  unfold popAtD at h
  split at h
  · cases rx
    cases ra with
    | cons r1 r2 =>
      cases r2
      cases r1
      obtain ⟨ds, y, ea, h0, h63, eg, q⟩ := h
      obtain ⟨ws, e1, r⟩ := m.at' _ _ ea
      obtain ⟨u, eu, ru⟩ := r.get eg
      have hlt := (List.getElem?_eq_some_iff.mp eu).1
      exact ⟨_, ws, _, _, u, rfl, rfl, e1, by omega, h63, seqIndex_of h0 (by omega), eu, hc _ _ _ _ q (write_lst m ea (r.eraseIdx _)) ((ext_write m ea) _ _ ru) (ext_write m ea)⟩
  · exact h.elim
section
variable {X : Cx} {W : WX} {o : Expr} {to : DTE} {apos cpos : Pos}
def dMt0 (f : D → List D → PD → MS → Prop) (to : DTE) : DTE := fun ρ R E M => to ρ (fun x M1 => isL M1 x ∧ f x [] R M1) E M
theorem de_mtL0 {name : Str} {id : String} {f : D → List D → PD → MS → Prop} (slot : Slot "list" name id) (hty : typeOf (.builtin id) = pure (.type "method_descriptor")) (hm : MtD X id f) (ho : DE X W o to)
    (hbase : attributeBase o name X.env (eval o X.env) = eval o X.env := by rfl) (hline : (apos.endLine == cpos.line) = true := by rfl) :
    DE X W (.Call (.Attribute o name apos) [] [] cpos) (dMt0 f to) := by
  obtain ⟨r, hr, ad⟩ := hm
  exact imp (pe_bm0 PySem.F.plainAttrs_list slot hty hr ho hbase hline) fun σ H Q ⟨z, ρ, M, R, E, hs, hm, h, hc, hE⟩ =>
    ⟨z, ρ, M, _, E, hs, hm, h, fun x M1 v H1 h1 m1 r1 e1 => ⟨isL_at m1 h1.1 r1, ad _ _ _ _ _ _ _ _ _ m1 r1 .nil h1.2 (hc.ext e1)⟩, hE⟩
end
section
variable {De : DEnds} {ρ : Sl} {R : PD} {E : XP} {M : MS} {te to ti tx : DTE} {f : D → List D → PD → MS → Prop} {a : Addr} {k : Str} {i : Int}
theorem v_getK : dGetK to ti ρ R E M = to ρ (fun o M1 => ti ρ (fun i M2 => getKD o i R M2) E M1) E M := (rfl)
theorem v_putK : dPutK te to ti De ρ M = te ρ (fun d M1 => to ρ (fun o M2 => ti ρ (fun i M3 => putKD o i d (fun M4 => De.nx ρ M4) M3) De.ex M2) De.ex M1) De.ex M := (rfl)
theorem v_get2K : dGet2K to ti tx ρ R E M = to ρ (fun o M1 => isDk M1 o ∧ ti ρ (fun i M2 => tx ρ (fun x M3 => get2KD o i x R M3) E M2) E M1) E M := (rfl)
theorem v_dict0 : dDict0 ρ R E M = ∀ p, M p = none → R (.ref p) (um M p (.dk [])) := (rfl)
theorem v_disp {ts : List (Key × DTE)} : dDisp ts ρ R E M = ∀ p, M p = none → dPairs ts ρ (fun kvs M' => M' p = some (.dk []) ∧ R (.ref p) (um M' p (.dk kvs))) E (um M p (.dk [])) := (rfl)
theorem v_mt0 : dMt0 f to ρ R E M = to ρ (fun x M1 => isL M1 x ∧ f x [] R M1) E M := (rfl)
theorem v_prN {R : List (Key × D) → MS → Prop} : dPairs [] ρ R E M = R [] M := (rfl)
theorem v_prC {R : List (Key × D) → MS → Prop} {k : Key} {ts : List (Key × DTE)} : dPairs ((k, te) :: ts) ρ R E M = te ρ (fun d M1 => dPairs ts ρ (fun ps M2 => R ((k, d) :: ps) M2) E M1) E M := (rfl)
end
/-- reading and writing of a dict by a text that is there -/
theorem q_getS {a : Addr} {k : Str} {kvs : List (Key × D)} {d : D} {R : PD} {M : MS} (e : M a = some (.dk kvs)) (g : getM kvs (.inr k) = some d) (q : R d M) : getKD (.ref a) (.str k) R M := ⟨.inr k, kvs, d, rfl, e, g, q⟩
theorem q_getI {a : Addr} {k : Int} {kvs : List (Key × D)} {d : D} {R : PD} {M : MS} (e : M a = some (.dk kvs)) (g : getM kvs (.inl k) = some d) (q : R d M) : getKD (.ref a) (.int k) R M := ⟨.inl k, kvs, d, rfl, e, g, q⟩
theorem q_putS {a : Addr} {k : Str} {kvs kvs' : List (Key × D)} {d : D} {q : MS → Prop} {M : MS} (e : M a = some (.dk kvs)) (hl : kvs.length < sizeLine) (g : putM kvs (.inr k) d = kvs') (h : q (um M a (.dk kvs'))) : putKD (.ref a) (.str k) d q M := ⟨.inr k, kvs, rfl, e, hl, by rw [g]; exact h⟩
theorem q_putI {a : Addr} {k : Int} {kvs kvs' : List (Key × D)} {d : D} {q : MS → Prop} {M : MS} (e : M a = some (.dk kvs)) (hl : kvs.length < sizeLine) (g : putM kvs (.inl k) d = kvs') (h : q (um M a (.dk kvs'))) : putKD (.ref a) (.int k) d q M := ⟨.inl k, kvs, rfl, e, hl, by rw [g]; exact h⟩
end L2.DL
/-! DLzza: dicts by tuples: for k in d, sorted(d, key=lambda ..) -/
namespace L2
open PySem PySem.Spec PyProof.Rows
open L2.DL (dnF)
/-- just this object stands at a: a dict with these entries -/
def dnX (a : Addr) (o : Obj) (xs : List (NestedKey × Addr × Value)) (h : Heap) : Prop := h.get? a = some o ∧ dnF a xs h
section
variable {X : Cx} {pins : List (Addr × Obj)} {σ : St} {H : Hp} {s : Shared} {d : Addr} {o : Obj} {xs : List (NestedKey × Addr × Value)}
theorem dnF_stay {h h' : Heap} (x : dnF d xs h) (k : ∀ o, h.get? d = some o → h'.get? d = some o) : dnF d xs h' := by
  obtain ⟨g1, g2, o', es, ep, g3, g4⟩ := x
  exact ⟨g1, g2, o', es, ep, k _ g3, g4⟩
theorem Inv.lockN (I : Inv X pins σ H s) (h : H d = some (.ext (dnF d xs))) : ∃ o, Inv X pins σ (upd H d (.ext (dnX d o xs))) s := by
  obtain ⟨p, ⟨o, e⟩, _⟩ := (show ObjOk X.prog X.w H s.heap d (.ext (dnF d xs)) from I.hok d _ h)
  exact ⟨o, I.write (x := d) (e := d) (t' := s.toks) (h' := s.heap) (by rw [h]; exact trivial) (.inl rfl) (fun b v _ q => q) ⟨o, e⟩ ⟨⟨e, p⟩, ⟨o, e⟩, fun h1 h2 x st => ⟨st _ x.1, dnF_stay x.2 st⟩⟩⟩
theorem Inv.unlockN (I : Inv X pins σ H s) (h : H d = some (.ext (dnX d o xs))) : Inv X pins σ (upd H d (.ext (dnF d xs))) s := by
  obtain ⟨p, ⟨o', e⟩, _⟩ := (show ObjOk X.prog X.w H s.heap d (.ext (dnX d o xs)) from I.hok d _ h)
  exact I.write (x := d) (e := d) (t' := s.toks) (h' := s.heap) (by rw [h]; exact trivial) (.inl rfl) (fun b v _ q => q) ⟨o', e⟩ ⟨p.2, ⟨o', e⟩, fun h1 h2 x st => dnF_stay x st⟩
theorem dnX_raw {h : Heap} (x : dnX d o xs h) : (d == sysModules) = false ∧ xs.length ≤ sizeLine ∧ h.get? d = some o ∧ o.ExactDict ∧ ∃ (es : Array DictEntry) (ep : Nat), o.data = .dict es ep ∧ es.size = xs.length ∧ ∀ (i : Nat) (q : NestedKey × Addr × Value), xs[i]? = some q → ∃ en, es[i]? = some en ∧ en.key = .ref q.2.1 ∧ en.val = q.2.2 := by
  obtain ⟨e, g1, g2, o', es, ep, g3, g4, g5, g6, _⟩ := x
  rw [e] at g3; cases g3
  refine ⟨g1, g2, e, g4, es, ep, g5, by rw [← Array.length_toList, g6, List.length_map], fun i q hq => ⟨⟨DL.hashN q.1, .ref q.2.1, q.2.2⟩, ?_, rfl, rfl⟩⟩
  rw [← Array.getElem?_toList, g6, List.getElem?_map, hq]; rfl
theorem Inv.exN (I : Inv X pins σ H s) (h : H d = some (.ext (dnX d o xs))) : (d == sysModules) = false ∧ xs.length ≤ sizeLine ∧ s.heap.get? d = some o ∧ o.ExactDict ∧ ∃ (es : Array DictEntry) (ep : Nat), o.data = .dict es ep ∧ es.size = xs.length ∧ ∀ (i : Nat) (q : NestedKey × Addr × Value), xs[i]? = some q → ∃ en, es[i]? = some en ∧ en.key = .ref q.2.1 ∧ en.val = q.2.2 :=
  dnX_raw (show ObjOk X.prog X.w H s.heap d (.ext (dnX d o xs)) from I.hok d _ h).1
end
/-- the statement runs while no entry of the dict at d is written -/
def tLockN (t : TS) : TS := fun D σ H => ∃ d xs, H d = some (.ext (dnF d xs)) ∧ ∀ o, t ⟨fun σ' H' => H' d = some (.ext (dnX d o xs)) ∧ D.nx σ' (upd H' d (.ext (dnF d xs))), fun v H' => H' d = some (.ext (dnX d o xs)) ∧ D.rt v (upd H' d (.ext (dnF d xs))),
  fun σ' H' => H' d = some (.ext (dnX d o xs)) ∧ D.bk σ' (upd H' d (.ext (dnF d xs))), fun σ' H' => H' d = some (.ext (dnX d o xs)) ∧ D.ct σ' (upd H' d (.ext (dnF d xs)))⟩ σ (upd H d (.ext (dnX d o xs)))
theorem ps_lockN {X : Cx} {st : Stmt} {t : TS} (h : PS X st t) : PS X st (tLockN t) := by
  refine ⟨fun pins s σ H D I hw => ?_⟩
  obtain ⟨d, xs, hd, hw⟩ := hw
  obtain ⟨od, I1⟩ := I.lockN hd
  refine thn (h.run pins s σ _ _ I1 (hw od)) fun f s1 q => ?_
  cases f with
  | next => obtain ⟨σ', H', I2, e, q⟩ := q; exact ⟨σ', _, I2.unlockN e, q⟩
  | brk => obtain ⟨σ', H', I2, e, q⟩ := q; exact ⟨σ', _, I2.unlockN e, q⟩
  | cont => obtain ⟨σ', H', I2, e, q⟩ := q; exact ⟨σ', _, I2.unlockN e, q⟩
  | ret v => obtain ⟨x, σ', H', I2, r, e, q⟩ := q; exact ⟨x, σ', _, I2.unlockN e, r, q⟩
/-- the keys of the dict at d, as they stand -/
def ItkN (d : Addr) (o : Obj) (xs : List (NestedKey × Addr × Value)) : It :=
  ⟨fun i H => H d = some (.ext (dnX d o xs)) ∧ i < xs.length, fun i H x H' => H' = H ∧ ∃ q, xs[i]? = some q ∧ x = .ref q.2.1, fun i H => H d = some (.ext (dnX d o xs)) ∧ xs.length ≤ i⟩
section
variable {P : Program} {w : World} {K : PySem.W.Frag} {tg : Expr} {d : Addr} {o : Obj} {es : Array DictEntry} {ep : Nat} {xs : List (NestedKey × Addr × Value)}
theorem turn_keysN (it : Addr) (hod : o.data = .dict es ep) : Turn P w K tg (ItkN d o xs) [it] it (fun i h => h.IsKeyIter it d i xs.length ep) where
  mem := by simp
  obj := fun i h st b hb => by
    have e : b = it := by simpa using hb
    subst e
    obtain ⟨oi, e, c, dd⟩ := st
    exact ⟨oi, e, fun v z => by rw [dd] at z; cases z⟩
  keep := fun i h h' st k => st.at fun oi e => k it (by simp) oi e
  item := by
    intro X hP hw hK hc i pins s σ H E I hf st hg
    subst hP hw hK
    obtain ⟨hd, hi⟩ := hg
    obtain ⟨f0, f1, f2, f3, f4, f5⟩ := hf it (by simp)
    obtain ⟨hs, _, hgd, hx, es', ep', hdt, hsz, ent⟩ := I.exN hd
    obtain ⟨rfl, rfl⟩ := dict_ep hod hdt
    obtain ⟨q, hq⟩ : ∃ p, xs[i]? = some p := ⟨xs[i], List.getElem?_eq_getElem hi⟩
    obtain ⟨en, hen, hkey, _⟩ := ent i q hq
    refine next_key_item st hgd hdt hsz hen fun h' st' sb => ?_
    have I1 : Inv X pins σ H { s with heap := h' } := I.turned (t' := s.toks) (fun b ob hb e => (sb.2 b hb).trans e) f0 f1 f3 f4 f5
    obtain ⟨oi, e, c, dd⟩ := id st'
    exact ⟨en.key, rfl, go_of (s := { s with heap := h' }) e c dd (by decide) ⟨.ref q.2.1, H, I1, hkey, ⟨rfl, q, hq, rfl⟩, st', fun b hb => (hf b hb).1⟩⟩
  done := by
    intro X hP hw hK hc i pins s σ H E I hf st hg
    subst hP hw hK
    obtain ⟨hd, hi⟩ := hg
    obtain ⟨f0, f1, f2, f3, f4, f5⟩ := hf it (by simp)
    obtain ⟨hs, _, hgd, hx, es', ep', hdt, hsz, ent⟩ := I.exN hd
    obtain ⟨rfl, rfl⟩ := dict_ep hod hdt
    exact next_key_end (I.ok.hd hc) st hgd hdt hsz hi fun h' eb => ⟨rfl, I.turned (t' := s.toks) (fun b ob hb e => eb b ob hb e) f0 f1 f3 f4 f5⟩
  self := fun A i s Q E st h => by
    refine wpAny_pyIter_slot st.typeIs F.slot_dict_keyiterator_iter (wpAny_call_entry F.slot_dict_keyiterator_iter st.typeIs F.entry_dict_keyiterator_iter ?_ (F.args_dict_keyiterator_iter_1 _))
    show wpAny _ _ (ret (.ref it)) _ _ s
    exact wpAny_pure ⟨_, rfl, "dict_keyiterator", _, st.typeIs, F.slot_dict_keyiterator_next.lookup, h⟩
end
def iKeysN (td : TE) : TI := fun σ H R => td σ H fun x H1 => ∃ d o xs, x = .ref d ∧ H1 d = some (.ext (dnX d o xs)) ∧ R (ItkN d o xs) H1
theorem pi_keysN {X : Cx} {tg e : Expr} {td : TE} (he : PE X e td) : PI X tg e (iKeysN td) := by
  refine ⟨fun pins s σ H R I h => ?_⟩
  refine thn (he.run pins s σ H _ I h) fun u s1 ⟨x, H1, I1, rx, d, o, xs, ex, hd, q⟩ => ?_
  subst ex
  obtain rfl : u = Value.ref d := rx
  obtain ⟨hs, _, hgd, hx, es, ep, hdt, hsz, ent⟩ := I1.exN hd
  refine iter_keys hs hgd hx hdt (pi_one (tk := s1.toks) I1 _ (turn_keysN _ hdt) ⟨_, Heap.get?_push_size _ rfl, rfl, ?_⟩ q)
  rw [hsz] <;> rfl
end L2
namespace L2.DL
open PySem PySem.Spec PyProof.Rows
variable [Tbs]
def zzO (z : Hd) (Da : Addr) (u : FO) : Hd := fun a => if a = Da then some u else z a
theorem zzO_same {z : Hd} {Da : Addr} {u : FO} : zzO z Da u Da = some u := if_pos rfl
theorem zzO_ne {z : Hd} {Da a : Addr} {u : FO} (h : a ≠ Da) : zzO z Da u a = z a := if_neg h
section
variable {F : PySem.W.Frag} {z : Hd} {H H' : Hp} {M M' : MS} {a : Addr} {u v : HO} {mo : MO}
theorem sqT_updE {K : PySem.W.Frag} {φ : Heap → Prop} {ψ : Heap → Prop} (h : H a = some (.ext φ)) (p : Addr) (xs : List V) (s : SqT K H p xs) : SqT K (upd H a (.ext ψ)) p xs :=
  sqT_upd (K := ⟨K, fun _ => none⟩) s (.inr ⟨_, h, fun ys => ⟨fun z => (nomatch z), fun ob z => (nomatch z)⟩⟩)
theorem sc_updE {K : PySem.W.Frag} {φ : Heap → Prop} {ψ : Heap → Prop} (h : H a = some (.ext φ)) (p : Addr) (xs : List V) (s : Sc K H p xs) : Sc K (upd H a (.ext ψ)) p xs := by
  rcases s with ⟨ob, s⟩ | s
  · refine .inl ⟨ob, ?_⟩
    rw [upd_ne (fun z => by rw [z, h] at s; cases s)]; exact s
  · exact .inr s
/-- a thing of the store goes into hiding -/
theorem lockO_in {φ ψ : Heap → Prop} (m : RelM ⟨F, z⟩ H M) (ea : M a = some mo) (eh : H a = some (.ext φ)) : ExtX ⟨F, z⟩ H M ⟨F, zzO z a (foE ψ)⟩ (upd H a (.ext ψ)) (dm M a) ∧ RelM ⟨F, zzO z a (foE ψ)⟩ (upd H a (.ext ψ)) (dm M a) := by
  have f : FoExt ⟨F, z⟩ H M ⟨F, zzO z a (foE ψ)⟩ (upd H a (.ext ψ)) (dm M a) := fun p o _ s => by
    have ne : p ≠ a := fun q => by
      have n := s.1.1
      rw [q, ea] at n; cases n
    exact ⟨⟨(dm_ne ne).trans s.1.1, (zzO_ne ne).trans s.1.2⟩, (upd_ne ne).trans s.2⟩
  have e : ExtX ⟨F, z⟩ H M ⟨F, zzO z a (foE ψ)⟩ (upd H a (.ext ψ)) (dm M a) := ExtX.of (sqT_updE eh) f (sc_updE eh)
  refine ⟨e, fun b mo q => ?_, fun b ws q => ?_, m.tab.mono f⟩
  · have ne : b ≠ a := fun q2 => by rw [q2, dm_same] at q; cases q
    rw [dm_ne ne] at q
    exact (m.at' b mo q).extX e (upd_ne ne)
  · by_cases hb : b = a
    · subst hb
      rw [show (⟨F, zzO z b (foE ψ)⟩ : ZK).hid b = some (foE ψ) from zzO_same] at q
      cases q
      exact ⟨dm_same, upd_same⟩
    · obtain ⟨q1, q2⟩ := m.hid b ws ((zzO_ne hb).symm.trans q)
      exact ⟨(dm_ne hb).trans q1, (upd_ne hb).trans q2⟩
theorem lockO_out {φ ψ : Heap → Prop} (hz : z a = none) (m : RelM ⟨F, zzO z a (foE ψ)⟩ H' M') (new : ExtX ⟨F, zzO z a (foE ψ)⟩ H' M' ⟨F, z⟩ (upd H' a (.ext φ)) (um M' a mo) → RelO ⟨F, z⟩ (upd H' a (.ext φ)) (um M' a mo) a mo) :
    ExtX ⟨F, zzO z a (foE ψ)⟩ H' M' ⟨F, z⟩ (upd H' a (.ext φ)) (um M' a mo) ∧ RelM ⟨F, z⟩ (upd H' a (.ext φ)) (um M' a mo) := by
  have eh : H' a = some (.ext ψ) := (m.hid a _ zzO_same).2
  have f : FoExt ⟨F, zzO z a (foE ψ)⟩ H' M' ⟨F, z⟩ (upd H' a (.ext φ)) (um M' a mo) := fun p o _ s => by
    have ne : p ≠ a := fun q => by
      have n : zzO z a (foE ψ) p = none := s.1.2
      rw [q, zzO_same] at n; cases n
    exact ⟨⟨(um_ne ne).trans s.1.1, (zzO_ne ne).symm.trans s.1.2⟩, (upd_ne ne).trans s.2⟩
  have e : ExtX ⟨F, zzO z a (foE ψ)⟩ H' M' ⟨F, z⟩ (upd H' a (.ext φ)) (um M' a mo) := ExtX.of (sqT_updE eh) f (sc_updE eh)
  refine ⟨e, fun b mo2 q => ?_, fun b ws q => ?_, m.tab.mono f⟩
  · by_cases hb : b = a
    · subst hb
      rw [um_same] at q
      cases q
      exact new e
    · rw [um_ne hb] at q
      exact (m.at' b mo2 q).extX e (upd_ne hb)
  · have hb : b ≠ a := fun q2 => by
      rw [q2] at q
      rw [show (⟨F, z⟩ : ZK).hid a = none from hz] at q; cases q
    obtain ⟨q1, q2⟩ := m.hid b ws ((zzO_ne hb).trans q)
    exact ⟨(um_ne hb).trans q1, (upd_ne hb).trans q2⟩
end
/-! for k in d -/
def lockM (a : Addr) (mo : MO) (De : DEnds) : DEnds where
  nx := fun ρ M => De.nx ρ (um M a mo)
  rt := fun d M => De.rt d (um M a mo)
  bk := fun ρ M => De.bk ρ (um M a mo)
  ct := fun ρ M => De.ct ρ (um M a mo)
  ex := fun _ _ _ => False
/-- over the keys of the dict at the i-th slot; its body raises nothing -/
def dForK (i : Nat) (p : Pat) (body : DTS) : DTS := fun De ρ M => match sl ρ i with
  | some (.ref a) => ∃ kvs, M a = some (.dn kvs) ∧ forW p body (lockM a (.dn kvs) De) (kvs.map fun kv => kD kv.1) ρ (dm M a)
  | _ => False
section
variable {X : Cx} {W : WX} {tg : Expr} {bs : List Stmt} {pos : Pos} {p : Pat} {t : DTS}
theorem relK_fst {κ : Type} {K : ZK} {H : Hp} {M : MS} : ∀ {ws : List (κ × V)} {kvs : List (κ × D)}, RelK K H M ws kvs → ws.map (·.1) = kvs.map (·.1)
  | _, _, .nil => rfl
  | _, _, .cons _ t => by rw [List.map_cons, List.map_cons, relK_fst t]
theorem paired_fst {α β γ : Type} {F : α × β → α × γ → Prop} (hF : ∀ p q, F p q → p.1 = q.1) : ∀ {l1 : List (α × β)} {l2 : List (α × γ)}, Paired F l1 l2 → l1.map (·.1) = l2.map (·.1)
  | _, _, .nil => rfl
  | _, _, .cons r t => by rw [List.map_cons, List.map_cons, hF _ _ r, paired_fst hF t]
theorem itOk_keysN {K : ZK} {H : Hp} {M : MS} {d : Addr} {o : Obj} {xs : List (NestedKey × Addr × Value)} (h : K.hid d = some (foE (dnX d o xs))) (hk : ∀ q ∈ xs, Rel K H M (.ref q.2.1) (kD q.1)) : ItOk K (ItkN d o xs) (xs.map fun q => kD q.1) H M where
  go := fun K' i H' M' hk' hi m e => ⟨(m.hid d _ (hk'.2 d _ h)).2, by simpa using hi⟩
  stop := fun K' H' M' hk' m e => ⟨(m.hid d _ (hk'.2 d _ h)).2, by simp⟩
  yld := fun K' i x H' M' H'' hk' hi m e y => by
    obtain ⟨rfl, q, hq, rfl⟩ := y
    exact ⟨kD q.1, by rw [List.getElem?_map, hq]; rfl, e _ _ (hk q (List.mem_of_getElem? hq)), m, Ext.refl⟩
theorem LS.lockN {z : Hd} {De : Ends} {Dd : DEnds} {H : Hp} {M : MS} {a : Addr} {o : Obj} {xs : List (NestedKey × Addr × Value)} {ws : List (NestedKey × V)} {kvs : List (NestedKey × D)} (L : LS ⟨X.K, z⟩ W De Dd H M) (hz : z a = none) (m : RelM ⟨X.K, z⟩ H M) (ea : M a = some (.dn kvs))
    (eh : H a = some (.ext (dnF a xs))) (pr : Paired (fun p q => p.1 = q.1 ∧ RelV p.2 q.2.2) ws xs) (rk : ∀ q ∈ xs, (nkN q.1 = true ∧ q.1.depth ≤ 8) ∧ Rel ⟨X.K, z⟩ H M (.ref q.2.1) (kD q.1)) (rv : RelK ⟨X.K, z⟩ H M ws kvs) :
    LS ⟨X.K, zzO z a (foE (dnX a o xs))⟩ W ⟨fun σ' H' => H' a = some (.ext (dnX a o xs)) ∧ De.nx σ' (upd H' a (.ext (dnF a xs))), fun v H' => H' a = some (.ext (dnX a o xs)) ∧ De.rt v (upd H' a (.ext (dnF a xs))),
      fun σ' H' => H' a = some (.ext (dnX a o xs)) ∧ De.bk σ' (upd H' a (.ext (dnF a xs))), fun σ' H' => H' a = some (.ext (dnX a o xs)) ∧ De.ct σ' (upd H' a (.ext (dnF a xs)))⟩ (lockM a (.dn kvs) Dd) (upd H a (.ext (dnX a o xs))) (dm M a) := by
  obtain ⟨e0, m0⟩ := lockO_in (ψ := dnX a o xs) m ea eh
  have back : ∀ {H' : Hp} {M' : MS}, RelM ⟨X.K, zzO z a (foE (dnX a o xs))⟩ H' M' → Ext ⟨X.K, zzO z a (foE (dnX a o xs))⟩ (upd H a (.ext (dnX a o xs))) (dm M a) H' M' →
      ExtX ⟨X.K, zzO z a (foE (dnX a o xs))⟩ H' M' ⟨X.K, z⟩ (upd H' a (.ext (dnF a xs))) (um M' a (.dn kvs)) ∧ RelM ⟨X.K, z⟩ (upd H' a (.ext (dnF a xs))) (um M' a (.dn kvs)) ∧ Ext ⟨X.K, z⟩ H M (upd H' a (.ext (dnF a xs))) (um M' a (.dn kvs)) ∧ H' a = some (.ext (dnX a o xs)) := fun m' e' => by
    obtain ⟨x, m2⟩ := lockO_out (mo := .dn kvs) (φ := dnF a xs) hz m' fun x => ⟨xs, ws, upd_same, pr, fun q hq => ⟨(rk q hq).1, x _ _ (e' _ _ (e0 _ _ (rk q hq).2))⟩, x.keys (ExtX.keys (Ext.x e') (e0.keys rv))⟩
    exact ⟨x, m2, ExtX.trans e0 (ExtX.trans e' x), (m'.hid a _ zzO_same).2⟩
  refine ⟨fun ρ' M' σ' H' q m' s' e' => ?_, fun d M' v H' q m' r' e' => ?_, fun ρ' M' σ' H' q m' s' e' => ?_, fun ρ' M' σ' H' q m' s' e' => ?_, fun x ρ' M' cls d σ' H' q m' s' r' e' => ?_⟩
  · obtain ⟨x, m2, e2, k⟩ := back m' e'
    exact ⟨k, L.nx _ _ _ _ q m2 (s'.extX x) e2⟩
  · obtain ⟨x, m2, e2, k⟩ := back m' e'
    exact ⟨k, L.rt _ _ _ _ q m2 (x _ _ r') e2⟩
  · obtain ⟨x, m2, e2, k⟩ := back m' e'
    exact ⟨k, L.bk _ _ _ _ q m2 (s'.extX x) e2⟩
  · obtain ⟨x, m2, e2, k⟩ := back m' e'
    exact ⟨k, L.ct _ _ _ _ q m2 (s'.extX x) e2⟩
  · exact (show False from q).elim
theorem ds_forK (i : Nat) {x : Str} {px : Pos} (hp : PassesOwn (model X.prog X.w) X.A X.env X.xe) (hc : X.calm = true) (hg : DG X tg p) (hb : DSs X W bs t) (hN : X.N[i]? = some x := by rfl) (hv : Vis X.env.scope x := by first | exact Or.inl rfl | exact Or.inr (Or.inl rfl) | exact Or.inr (Or.inr rfl))
    (hd : (x == ("__debug__" : Str)) = false := by decide) (hcd : (x == ("__classdict__" : Str)) = false := by decide) (hs : ∀ y, foldedSetIterable (.Name x px) X.env y = pure y := by intro _; rfl) :
    DS X W (.For tg (.Name x px) bs [] pos) (dForK i p t) :=
  impS (ps_lockN (ps_for hp hc (pi_keysN (pe_var hN hv hd hcd)) hg hb hs)) fun De σ H ⟨z, ρ, M, Dd, hs, hm, h, L⟩ => by
    unfold dForK at h
    split at h
    · next a q =>
      obtain ⟨kvs, ea, f⟩ := h
      obtain ⟨v, e1, r1⟩ := hs.2 i _ (sl_get q)
      cases r1
      obtain ⟨xs, ws, eh, pr, rk, rv⟩ := hm.at' a _ ea
      refine ⟨a, xs, eh, fun o => ?_⟩
      obtain ⟨e0, m0⟩ := lockO_in (ψ := dnX a o xs) hm ea eh
      have ek : (kvs.map fun kv => kD kv.1) = xs.map fun q => kD q.1 := by
        have := (relK_fst rv).symm.trans (paired_fst (fun p q r => r.1) pr)
        have := congrArg (List.map kD) this
        rw [List.map_map, List.map_map] at this
        exact this
      rw [ek] at f
      exact ⟨_, e1, a, o, xs, rfl, upd_same, for_core (itOk_keysN zzO_same fun q hq => e0 _ _ (rk q hq).2) (hs.extX e0) m0 f (L.lockN (hm.hidN ea) hm ea eh pr rk rv)⟩
    · exact h.elim
theorem v_forK {De : DEnds} {i : Nat} {ρ : Sl} {M : MS} : dForK i p t De ρ M = match sl ρ i with
  | some (.ref a) => ∃ kvs, M a = some (.dn kvs) ∧ forW p t (lockM a (.dn kvs) De) (kvs.map fun kv => kD kv.1) ρ (dm M a)
  | _ => False := (rfl)
end
end L2.DL
/-! DLzzb: sorted(d, key=lambda ..), d a dict by tuples, the keys whole numbers -/
namespace L2
open PySem PySem.Spec PyProof.Rows PySem.Calls
section
variable {prog : Program} {w : World} {A : Around} {E : Value → Shared → Prop} {s : Shared} {a kS : Addr} {b : Bool} {vs : List Value} {e1 : Nat} {P : PySem.Fin → Shared → Prop} {kz : List Int}
/-- the keys are asked one by one; J holds meanwhile -/
theorem keyJ_rest {J : Array Value → Nat → Shared → Prop} {f : Value} (hlen : kz.length = vs.length) (hZ : vs.length ≤ sizeLine) (hu : A.units + 1 < cLine)
    (at' : ∀ kA e s', J kA e s' → s'.heap.get? kS = some (seqObj "list" kA e) ∧ s'.heap.get? a = some (seqObj "list" #[] e1))
    (push : ∀ kA e s' v c2 h', J kA e s' → Heap.SameBut kS s'.heap h' → h'.get? kS = some (seqObj "list" (kA.push v) c2) → J (kA.push v) c2 { s' with heap := h' })
    (turn : ∀ (i : Nat) v k kA e s', vs[i]? = some v → kz[i]? = some k → J kA e s' → wpAny (model prog w) A (call f [v]) (fun u s2 => (∃ t, u = .int k t) ∧ J kA e s2) (fun _ _ => False) s')
    (h0 : J #[] 0 s) (hka : kS ≠ a)
    (h : ∀ kA e s' h' tk c out, J kA e s' → (∀ b o, b ≠ a → b ≠ kS → s'.heap.get? b = some o → h'.get? b = some o) → h'.get? a = some (seqObj "list" (List.toArray out) c) → PySem.W.KeyedOut b (kz.map PyData.int) vs out → P (.done (.ret .none)) { s' with heap := h', toks := tk }) :
    wpAny (model prog w) A (ksk_rest a f b vs.toArray e1 (.ref kS)) P E s := by
  unfold ksk_rest
  refine wpAny_bind (wpAny_rule ?_)
  first
    | rw [List.forIn_toArray]
    | (rw [← Array.forIn_toList]; simp only [List.toList_toArray])
    | rw [← Array.forIn_toList]
  refine wpAny_bind (ksk_fold (fun i s' => ∃ kA e, J kA e s' ∧ PySem.W.EachIs (fun v (k : Int) => ∃ t, v = .int k t) kA.toList (kz.take i)) vs 0 s
    ⟨#[], 0, h0, by rw [List.take_zero]; exact .nil⟩ ?step ?done)
  case step =>
    rintro j x s' hx ⟨kA, e, hJ, hk⟩
    simp only [Nat.zero_add] at hk ⊢
    have hj : j < vs.length := (List.getElem?_eq_some_iff.mp hx).1
    obtain ⟨k, hkj⟩ : ∃ k, kz[j]? = some k := ⟨_, List.getElem?_eq_getElem (by omega)⟩
    have hz : kA.size ≤ vs.length := by
      have h1 := hk.length
      rw [Array.length_toList, List.length_take] at h1
      omega
    refine wpAny_bind (wpAny_attempt (wpAny_mono (turn j x k kA e s' hx hkj hJ) (fun v s'' he => ?_) fun _ _ hF => hF.elim))
    obtain ⟨⟨t, rfl⟩, hJ2⟩ := he
    try dsimp only
    obtain ⟨nk2, na2⟩ := at' _ _ _ hJ2
    have s1 := Heap.SameBut.update s''.heap kS (Obj.mapSeq (·.push (Value.int k t)))
    obtain ⟨c2, hc2⟩ : ∃ c2, (s''.heap.update kS (Obj.mapSeq (·.push (Value.int k t)))).get? kS = some (seqObj "list" (kA.push (Value.int k t)) c2) := ⟨_, get?_update_seq nk2 (·.push (Value.int k t))⟩
    have ek : kz.take (j + 1) = kz.take j ++ [k] := by rw [List.take_add_one, hkj]; simp
    have ea : (kA.push (Value.int k t)).toList = kA.toList ++ [Value.int k t] := by simp
    refine wpAny_bind (listUpdate_at nk2 rfl ?_ (Nat.le_trans hz hZ) (Nat.le_trans (Nat.le_of_eq (Array.size_push ..)) (Nat.succ_le_succ (Nat.le_trans hz hZ))))
    refine wpAny_pure ⟨rfl, kA.push (Value.int k t), c2, push _ _ _ _ _ _ hJ2 s1 hc2, ?_⟩
    rw [ea, ek]
    exact PySem.W.each_snoc (R := fun (v : Value) (k : Int) => ∃ t, v = .int k t) ⟨t, rfl⟩ hk
  case done =>
    rintro s' ⟨kA, e, hJ, hk⟩
    have e3 : kz.take (0 + vs.length) = kz := List.take_of_length_le (by omega)
    rw [e3] at hk
    obtain ⟨nk', na'⟩ := at' _ _ _ hJ
    have hsz : kA.size = vs.length := by
      have h1 := hk.length
      rw [Array.length_toList] at h1
      omega
    have hk' : PySem.W.EachIs (fun v d => ∃ as, Reads s'.heap v d as) kA.toList (kz.map PyData.int) := by
      clear hsz e3 nk' h turn hlen at' push
      generalize kA.toList = l at hk
      induction hk with
      | nil => exact .nil
      | cons r _ ih =>
        obtain ⟨t, rfl⟩ := r
        exact .cons ⟨[], .int _ _⟩ ih
    have hal : PySem.W.AllAlike (kz.map PyData.int) := by
      intro d hd d' hd'
      obtain ⟨b, _, rfl⟩ := List.mem_map.mp hd
      obtain ⟨b', _, rfl⟩ := List.mem_map.mp hd'
      rfl
    have hsk : PySem.W.Sortable (kz.map PyData.int) := .inr fun d hd => by
      obtain ⟨b, _, rfl⟩ := List.mem_map.mp hd
      exact ⟨fun z => (nomatch z), fun xs z => (nomatch z)⟩
    try dsimp only
    refine wpAny_bind (listItems_at nk' rfl ?_)
    refine PySem.W.keyH_end (κ := PySem.W.dataKind s'.heap (kz.map PyData.int)) (h₁ := PySem.W.hideAll s'.heap [kS]) (fun b o hb e => PySem.W.of_hideAll _ e) (PySem.W.hideAll_none _ (by simp)) nk' na' hka
      (PySem.W.SortsAt.data (s := s') hk' hal hsk fun d hd => by
        obtain ⟨b, _, rfl⟩ := List.mem_map.mp hd
        simp only [PyData.depth]
        omega) hsz hZ fun h3 tk3 c k3 n3 => ?_
    exact h _ _ s' h3 tk3 c _ hJ (fun b o hb hkb e => k3 b o hb (PySem.W.hideAll_get _ e (by simpa using hkb))) n3 ⟨s'.heap, kA.toList, hal, rfl, hk'⟩
end
end L2
namespace L2.DL
open PySem PySem.Spec PyProof.Rows PySem.Calls LamX NdefX
variable [Tbs]
section
variable {X : Cx} {W : WX} {pins : List (Addr × Obj)} {σ : L2.St} {H : Hp} {s : Shared}
theorem each_mapR {α : Type} (g : α → Value) : ∀ xs : List α, PySem.W.EachIs (fun v (q : α) => v = g q) (xs.map g) xs
  | [] => .nil
  | x :: xs => .cons rfl (each_mapR g xs)
theorem vals_each {out : List Value} {sx : List (NestedKey × Addr × Value)} (h : PySem.W.EachIs (fun v (q : NestedKey × Addr × Value) => v = Value.ref q.2.1) out sx) : Vals (sx.map fun q => V.ref q.2.1) out := by
  induction h with
  | nil => exact .nil
  | cons r _ ih =>
    subst r
    exact .cons rfl ih
theorem relA_map {α : Type} {K : ZK} {H : Hp} {M : MS} {g : α → V} {e : α → D} : ∀ {sx : List α}, (∀ q ∈ sx, Rel K H M (g q) (e q)) → RelA K H M (sx.map g) (sx.map e)
  | [], _ => .nil
  | q :: sx, h => .cons (h q (.head _)) (relA_map fun q hq => h q (.tail _ hq))
theorem run_sortK {z : Hd} {M : MS} {a f : Addr} {F : LFn} {ws : List V} {cs : List D} {kvs : List (NestedKey × D)} {lps fr : List Str} {gl : G} {j : Nat} {js : List Nat} {key : NestedKey → Int} {Q : VK}
    (I : Inv X pins σ H s) (m : RelM ⟨X.K, z⟩ H M) (ea : M a = some (.dn kvs)) (rf : Rel ⟨X.K, z⟩ H M (.ref f) (.clo F ws cs)) (L : LOk X.prog X.w X.K X.mg X.base j F lps fr gl) (cp : Caps X F.cl fr js) (hw : ws.map some = js.map (NdefX.slotAt σ))
    (hr : Room (j + 2) X.A) (hG : X.A.guards = some []) (hc : X.calm = true) (hgl : ∀ kv ∈ kvs, gl (kD kv.1 :: cs) (fun d M2 => d = .int (key kv.1) ∧ M2 = M) (fun _ _ => False) M)
    (hk : ∀ (ys : List NestedKey) v H', ys.Perm (kvs.map (·.1)) → ys.Pairwise (fun x y => key x ≤ key y) → RelM ⟨X.K, z⟩ H' M → Rel ⟨X.K, z⟩ H' M v (.lst (ys.map kD)) → Ext ⟨X.K, z⟩ H M H' M → Q v H') :
    wpAny (model X.prog X.w) X.A (call (.builtin "sorted") [.ref a] [(Str.ofString "key", .ref f)]) (EP X pins σ Q) X.xe s := by
  obtain ⟨xs, ws', eh, pr, rk, rv⟩ := m.at' a _ ea
  obtain ⟨p0, ⟨o, e0⟩, _⟩ := (show ObjOk X.prog X.w H s.heap a (.ext (dnF a xs)) from I.hok a _ eh)
  obtain ⟨lo, hz, ho, hx, es, ep, hdt, hsz, ent⟩ := dnX_raw (d := a) (o := o) ⟨e0, p0⟩
  have ekeys : kvs.map (·.1) = xs.map (·.1) := (relK_fst rv).symm.trans (paired_fst (fun p q r => r.1) pr)
  have hin : ∀ q ∈ xs, ∃ kv ∈ kvs, kv.1 = q.1 := fun q hq => by
    have h1 : q.1 ∈ kvs.map (·.1) := by rw [ekeys]; exact List.mem_map_of_mem hq
    obtain ⟨kv, h2, h3⟩ := List.mem_map.mp h1
    exact ⟨kv, h2, h3⟩
  obtain ⟨vs, hvs⟩ : ∃ vs : List Value, vs = xs.map fun q => Value.ref q.2.1 := ⟨_, rfl⟩
  have hvl : vs.length = xs.length := by rw [hvs, List.length_map]
  refine call_function_entry_kw kind_sorted plain_sorted entry_sorted (ksk_s1 _ _) ?_
  unfold Builtin.«sorted»
  refine wpAny_bind (m := checkCount "sorted" 1 1 _) (wpAny_pure ?_)
  refine wpAny_bind (PySem.W.kdu_collect (A := X.A.in1) (kdl_raw lo hx hdt) (I.ok.hd hc) ho (by rw [hsz]; exact hz) fun h1 tk1 acc hk1 hacc => ?_)
  have eacc : acc.toList = vs := by
    refine List.ext_getElem? fun i => ?_
    by_cases hi : i < xs.length
    · have hq : xs[i]? = some xs[i] := List.getElem?_eq_getElem hi
      have hai : i < acc.size := by rw [hacc.1, hsz]; exact hi
      have h2 : acc[i]? = some acc[i] := Array.getElem?_eq_getElem hai
      obtain ⟨en, h3, h4⟩ := hacc.2 i _ h2
      obtain ⟨en', h5, h6, _⟩ := ent i _ hq
      rw [h3] at h5; cases h5
      rw [Array.getElem?_toList, h2, h4, h6, hvs, List.getElem?_map, hq]
      rfl
    · rw [List.getElem?_eq_none (by rw [Array.length_toList, hacc.1, hsz]; omega), List.getElem?_eq_none (by rw [hvl]; omega)]
  rw [eacc]
  refine wpAny_bind (wpAny_newList ?_ (by rw [hvl]; exact hz))
  have I1 : Inv X pins σ H { s with heap := h1, toks := tk1 } := I.kept (t' := tk1) hk1
  obtain ⟨x, hxe⟩ : ∃ x, x = h1.objs.size := ⟨_, rfl⟩
  have fx : FpOk X pins H x := I1.fpOk (Nat.le_of_eq hxe.symm) (I1.hok.fresh (Nat.le_of_eq hxe.symm))
  have fk : FpOk X pins H (x + 2) := I1.fpOk (show h1.objs.size ≤ x + 2 by omega) (I1.hok.fresh (show h1.objs.size ≤ x + 2 by omega))
  obtain ⟨h2, hh2⟩ : ∃ h2, h2 = h1.push (seqObj "list" vs.toArray 0) := ⟨_, rfl⟩
  have gx : h2.get? x = some (seqObj "list" vs.toArray 0) := by rw [hh2, hxe]; exact Heap.get?_push_size _ rfl
  have sz2 : h2.objs.size = x + 1 := by rw [hh2, hxe]; exact size_push' _ _
  show wpAny _ _ _ _ _ { s with heap := h1.push (seqObj "list" vs.toArray 0), toks := tk1 }
  rw [← hh2, ← hxe]
  refine wpAny_bind (wpAny_holding (wpAny_call_entry_kw slot_list_sort ⟨_, gx, rfl⟩ entry_list_sort ?_ (ksk_l1 _ _)))
  rw [ksk_t1]
  have big : wpAny (model X.prog X.w) X.A.in1.in1 (ksk_tree x (.ref f) false) (fun fin s' => fin = .done (.ret .none) ∧ EP X pins σ Q (.ref x) s') X.xe { s with heap := h2, toks := tk1 } := by
    obtain ⟨e1, ho1⟩ : ∃ e1, (h2.update x (Obj.mapSeq fun _ => (#[] : Array Value))).get? x = some (seqObj "list" #[] e1) := ⟨_, get?_update_seq gx fun _ => #[]⟩
    unfold ksk_tree
    refine wpAny_bind (listItems_at gx rfl ?_)
    refine wpAny_bind (listUpdate_at gx rfl ?_ (by rw [List.size_toArray, hvl]; exact hz) (Nat.zero_le _))
    refine wpAny_bind (seqEpoch_at ho1 rfl ?_)
    refine wpAny_bind (wpAny_newTuple ?_ (by show vs.length ≤ _; rw [hvl]; exact hz))
    refine wpAny_bind (wpAny_newList ?_ (Nat.zero_le _))
    refine wpAny_holding ?_
    obtain ⟨h3, hh3⟩ : ∃ h3, h3 = h2.update x (Obj.mapSeq fun _ => (#[] : Array Value)) := ⟨_, rfl⟩
    have sz3 : h3.objs.size = x + 1 := by rw [hh3, Heap.size_update, sz2]
    obtain ⟨h4, hh4⟩ : ∃ h4, h4 = h3.push (seqObj "tuple" vs.toArray 0) := ⟨_, rfl⟩
    have sz4 : h4.objs.size = x + 2 := by rw [hh4, size_push', sz3]
    obtain ⟨h5, hh5⟩ : ∃ h5, h5 = h4.push (seqObj "list" #[] 0) := ⟨_, rfl⟩
    rw [← hh3] at ho1
    show wpAny _ _ (ksk_rest x (.ref f) false vs.toArray e1 (.ref ((h2.update x (Obj.mapSeq fun _ => (#[] : Array Value))).push (seqObj "tuple" vs.toArray 0)).objs.size)) _ _
      { s with heap := ((h2.update x (Obj.mapSeq fun _ => (#[] : Array Value))).push (seqObj "tuple" vs.toArray 0)).push (seqObj "list" #[] 0), toks := tk1 }
    rw [← hh3, ← hh4, ← hh5, sz4]
    have k5 : ∀ b ob, h1.get? b = some ob → h5.get? b = some ob := fun b ob q => by
      have nb : b ≠ x := fun z => absurd (Heap.lt_size q) (by rw [z, hxe]; exact Nat.lt_irrefl _)
      rw [hh5]
      refine Heap.get?_push_of_some _ ?_
      rw [hh4]
      refine Heap.get?_push_of_some _ ?_
      rw [hh3]
      refine ((Heap.SameBut.update h2 x (Obj.mapSeq fun _ => (#[] : Array Value))).2 b nb).trans ?_
      rw [hh2]
      exact Heap.get?_push_of_some _ q
    have g5x : h5.get? x = some (seqObj "list" #[] e1) := by
      rw [hh5]
      refine Heap.get?_push_of_some _ ?_
      rw [hh4]
      exact Heap.get?_push_of_some _ ho1
    have g5k : h5.get? (x + 2) = some (seqObj "list" #[] 0) := by
      rw [hh5, ← sz4]
      exact Heap.get?_push_size _ rfl
    obtain ⟨x0, x1, x2, x3, x4, x5⟩ := id fx
    obtain ⟨y0, y1, y2, y3, y4, y5⟩ := id fk
    have nocell : ∀ (T : String) (arr : Array Value) (n : Nat) v, (seqObj T arr n).data ≠ .cell v := fun T arr n v z => nomatch z
    have keyd : vs.length = (xs.map fun q => key q.1).length := by rw [hvl, List.length_map]
    refine keyJ_rest (kS := x + 2) (a := x) (b := false) (kz := xs.map fun q => key q.1) (J := fun kA e s' => ∃ H', Inv X ((x, seqObj "list" #[] e1) :: (x + 2, seqObj "list" kA e) :: pins) σ H' s' ∧ RelM ⟨X.K, z⟩ H' M ∧ Ext ⟨X.K, z⟩ H M H' M)
      keyd.symm (by rw [hvl]; exact hz) (by have := hr.un; show X.A.units + 1 + 1 + 1 < cLine; omega) ?_ ?_ ?_ ?_ (Nat.ne_of_gt (show x < x + 2 from Nat.lt_add_of_pos_right (by decide))) ?_
    · rintro kA e s' ⟨H', J, _, _⟩
      exact ⟨(J.pin (x + 2, seqObj "list" kA e) (by simp)).1, (J.pin (x, seqObj "list" #[] e1) (by simp)).1⟩
    · rintro kA e s' v c2 h' ⟨H', J, m', e'⟩ sb hg
      have px := J.pin (x, seqObj "list" #[] e1) (by simp)
      have pk := J.pin (x + 2, seqObj "list" kA e) (by simp)
      have J1 : Inv X ((x, seqObj "list" #[] e1) :: pins) σ H' s' := J.pins_of fun p hp => J.pin p (by
        rcases List.mem_cons.mp hp with rfl | hp
        · simp
        · simp [hp])
      have J2 : Inv X ((x, seqObj "list" #[] e1) :: pins) σ H' { s' with heap := h' } := J1.turned (t' := s'.toks) (it := x + 2) (fun b ob hb q => (sb.2 b hb).trans q) pk.2.1 y1 y3 y4 fun p hp => by
        rcases List.mem_append.mp hp with hp | hp
        · exact y5 p (List.mem_append_left _ hp)
        · rcases List.mem_cons.mp hp with rfl | hp
          · show x ≠ x + 2; omega
          · exact y5 p (List.mem_append_right _ hp)
      refine ⟨H', J2.pins_of fun p hp => ?_, m', e'⟩
      rcases List.mem_cons.mp hp with rfl | hp
      · exact J2.pin _ (by simp)
      · rcases List.mem_cons.mp hp with rfl | hp
        · exact ⟨hg, pk.2.1, y1, y2, nocell _ _ _⟩
        · exact J2.pin p (by simp [hp])
    · rintro i v k kA e s' hv hki ⟨H', J, m', e'⟩
      rw [hvs, List.getElem?_map] at hv
      rw [List.getElem?_map] at hki
      obtain ⟨q, hq, rfl⟩ := Option.map_eq_some_iff.mp hv
      rw [hq] at hki
      cases hki
      have hqm := List.mem_of_getElem? hq
      obtain ⟨kv, hkv, ekv⟩ := hin q hqm
      have rq : Rel ⟨X.K, z⟩ H' M (.ref q.2.1) (kD q.1) := e' _ _ (rk q hqm).2
      have rf' := e' _ _ rf
      cases rf' with
      | clo f1 f2 rc =>
        have C2 := cells_of J cp
        rw [← hw] at C2
        have sp : spD X.K gl ([V.ref q.2.1] ++ ws) H' (fun v H'' => v = .int (key q.1) ∧ RelM ⟨X.K, z⟩ H'' M ∧ Ext ⟨X.K, z⟩ H' M H'' M) fun _ _ _ => False :=
          ⟨z, kD kv.1 :: cs, M, fun d M2 => d = .int (key kv.1) ∧ M2 = M, fun _ _ => False, .cons (by rw [ekv]; exact rq) rc, m', hgl kv hkv, fun d M2 v H'' ⟨q1, q2⟩ mm rr ee => by
            subst q1 q2
            cases rr
            rw [ekv]
            exact ⟨rfl, mm, ee⟩, fun x M' cls d H' a => a.elim⟩
        have en0 := J.env0
        refine wpAny_call (codeAny_mono (L.run f X.A.in1.in1 X.stack s' H' [.ref q.2.1] [V.ref q.2.1] ws _ _ (hr.in1.in1) hG ⟨en0.frames, en0.mod, en0.bs, en0.bsz, en0.funs, en0.frf, en0.hok, en0.bare⟩ f1.2 f2.2 C2 (.cons rfl .nil) sp) fun res s'' hq => ?_)
        cases res with
        | error e' =>
          obtain ⟨_, _, _, _, _, _, _, _, _, _, _, _, hE⟩ := hq
          exact hE.elim
        | ok fl =>
          cases fl with
          | ret u =>
            obtain ⟨v, H'', J3, ru, rfl, m3, e3⟩ := J.after hq
            obtain ⟨t, rfl⟩ := ru
            exact ⟨⟨t, rfl⟩, H'', J3, m3, e'.trans e3⟩
          | next => exact False.elim hq
          | brk => exact False.elim hq
          | cont => exact False.elim hq
    · refine ⟨H, ?_, m, Ext.refl⟩
      have I5 : Inv X pins σ H { s with heap := h5, toks := tk1 } := I1.kept (t' := tk1) k5
      refine I5.pins_of fun p hp => ?_
      rcases List.mem_cons.mp hp with rfl | hp
      · exact ⟨g5x, x0, x1, x2, nocell _ _ _⟩
      · rcases List.mem_cons.mp hp with rfl | hp
        · exact ⟨g5k, y0, y1, y2, nocell _ _ _⟩
        · exact I5.pin p (List.mem_append_right _ hp)
    · rintro kA e s' h' tk c out ⟨H', J, m', e'⟩ keep gout ko
      refine ⟨rfl, ?_⟩
      have px := J.pin (x, seqObj "list" #[] e1) (by simp)
      have pk := J.pin (x + 2, seqObj "list" kA e) (by simp)
      have J1 : Inv X pins σ H' s' := J.pins_of fun p hp => J.pin p (by simp [hp])
      obtain ⟨sx, hsx⟩ : ∃ sx, sx = xs.mergeSort (PySem.W.dataLe false fun (q : NestedKey × Addr × Value) => PyData.int (key q.1)) := ⟨_, rfl⟩
      have hperm : sx.Perm xs := by rw [hsx]; exact List.mergeSort_perm _ _
      have hout : PySem.W.EachIs (fun v (q : NestedKey × Addr × Value) => v = Value.ref q.2.1) out sx := by
        rw [hsx]
        refine PySem.W.keyedOut_each (fun (q : NestedKey × Addr × Value) => PyData.int (key q.1)) (vs := vs) (by rw [List.map_map] at ko; exact ko) ?_
        rw [hvs]
        exact each_mapR _ xs
      have hsort : sx.Pairwise fun p q => key p.1 ≤ key q.1 := by
        have h9 := List.pairwise_mergeSort (le := fun (p q : NestedKey × Addr × Value) => decide (key p.1 ≤ key q.1)) (fun a b c h1 h2 => by simp only [decide_eq_true_eq] at *; omega) (fun a b => by simp only [Bool.or_eq_true, decide_eq_true_eq]; omega) xs
        rw [hsx, PySem.W.dataLe_int]
        exact h9.imp fun h => of_decide_eq_true h
      have hvals : Vals (sx.map fun q => V.ref q.2.1) out := vals_each hout
      have hsl : (sx.map fun q => V.ref q.2.1).length ≤ sizeLine := by rw [List.length_map, hperm.length_eq]; exact hz
      have nx : ∀ b u, H' b = some u → b ≠ x := fun b u q z => by rw [z, px.2.1] at q; cases q
      have nk : ∀ b u, H' b = some u → b ≠ x + 2 := fun b u q z => by rw [z, pk.2.1] at q; cases q
      have hok : HOk X.prog X.w (upd H' x (.lst (sx.map fun q => V.ref q.2.1))) h' := fun b u q => by
        by_cases hb : b = x
        · rw [hb, upd_same] at q
          cases q
          rw [hb]
          exact ⟨hsl, out, c, hvals, gout⟩
        · rw [upd_ne hb] at q
          refine (J1.hok b u q).stay (fun c' v hc' q' => keep c' v ?_ ?_ q') (fun c' q' => by rw [upd_ne (nx _ _ q')]; exact q') fun c' ys q' => by rw [upd_ne (nx _ _ q')]; exact q'
          · rcases hc' with z2 | z2
            · rw [z2]; exact hb
            · exact nx _ _ z2
          · rcases hc' with z2 | z2
            · rw [z2]; exact nk _ _ q
            · exact nk _ _ z2
      have nin : ∀ b, b ∉ [x, x + 2] → b ≠ x ∧ b ≠ x + 2 := fun b hb => ⟨fun z2 => hb (by simp [z2]), fun z2 => hb (by simp [z2])⟩
      have I9 := J1.step (g' := s'.gens) (d' := s'.drawn) (t' := tk) (ch := [x, x + 2]) (h' := h') (H' := upd H' x (.lst (sx.map fun q => V.ref q.2.1))) (fun b hb => by
          rcases List.mem_cons.mp hb with rfl | hb
          · exact ⟨x3, x1, x4, x5⟩
          · rw [List.mem_singleton.mp hb]
            exact ⟨y3, y1, y4, y5⟩)
        (fun b ob _ _ hb q _ => keep b ob (nin b hb).1 (nin b hb).2 q) (fun b ob _ _ hb q _ => ⟨ob.slots, keep b ob (nin b hb).1 (nin b hb).2 q⟩) (fun b ob hb q n => (upd_ne (nin b hb).1).trans n) (fun b ob hb q => ⟨ob, keep b ob (nin b hb).1 (nin b hb).2 q⟩)
        (fun b ys q => (upd_ne (nx _ _ q)).trans q) (fun b ob u q => (upd_ne (nx _ _ q)).trans q) (fun b ps q => ⟨#[], by rw [upd_ne (nx _ _ q), q]; simp⟩) (fun mm hm => by
          obtain ⟨ob, es', ep', ho', r'⟩ := hm
          exact ⟨ob, es', ep', keep _ ob (Ne.symm x1) (Ne.symm y1) ho', r'⟩) hok J1.bare
      refine ⟨.ref x, _, I9, rfl, hk (sx.map (·.1)) _ _ (by rw [ekeys]; exact hperm.map _) ?_ (relM_new m' px.2.1) ?_ (e'.trans (ext_new m' px.2.1))⟩
      · exact List.pairwise_map.mpr hsort
      · refine .lst ⟨⟨m'.free px.2.1, m'.freeH px.2.1⟩, upd_same⟩ ?_
        have hr2 : ∀ q ∈ sx, Rel ⟨X.K, z⟩ (upd H' x (.lst (sx.map fun q => V.ref q.2.1))) M (.ref q.2.1) (kD q.1) := fun q hq => ext_new m' px.2.1 _ _ (e' _ _ (rk q (hperm.mem_iff.mp hq)).2)
        rw [List.map_map]
        exact relA_map hr2
  refine wpAny_mono big (fun fin s' hf => ?_) fun _ _ e => e
  obtain ⟨rfl, hq⟩ := hf
  exact ⟨_, rfl, wpAny_pure ⟨_, rfl, hq⟩⟩
end
end L2.DL
/-! DLzzc: sorted(d, key=lambda ..); list.insert; d.setdefault; sorted(dict by whole numbers) -/
namespace L2.DL
open PySem PySem.Spec PyProof.Rows PySem.Calls LamX NdefX
variable [Tbs]
/-- sorted(d, key=the function made here), d a dict by tuples -/
def dSortK (gl : G) (js : List Nat) (te : DTE) : DTE := fun ρ R E M => te ρ (fun o M1 => ∃ a kvs cs, ∃ key : NestedKey → Int, o = .ref a ∧ M1 a = some (.dn kvs) ∧ capD ρ js = some cs ∧
  (∀ kv ∈ kvs, gl (kD kv.1 :: cs) (fun d M2 => d = .int (key kv.1) ∧ M2 = M1) (fun _ _ => False) M1) ∧ ∀ ys : List NestedKey, ys.Perm (kvs.map (·.1)) → ys.Pairwise (fun x y => key x ≤ key y) → R (.lst (ys.map kD)) M1) E M
section
variable {X : Cx} {W : WX} {e l : Expr} {te : DTE} {gl : G} {lps fr : List Str} {j : Nat} {js : List Nat} {p pos kpos : Pos}
theorem de_sortKey (hr : Room (j + 2) X.A) (hG : X.A.guards = some []) (hc : X.calm = true) (la : LamAt X l) (L : ∀ b, BE X.base b → ∀ F, LmOf X l F → LOk X.prog X.w X.K X.mg b j F lps fr gl)
    (hfr : ∀ F, LmOf X l F → (∀ y ∈ F.scope.names, y.2 = .free → X.env.scope.names.lookup y.1 = some .cell ∨ X.env.scope.names.lookup y.1 = some .free) ∧ (∀ y ∈ fr, (y, NameKind.free) ∈ F.scope.names) ∧ ∀ y ∈ F.scope.names, y.2 = .free → X.fn y.1 = true)
    (hjs : js.map (fun j => X.N[j]?) = fr.map some) (hm : X.mg "sorted" = none) (he : DE X W e te) (hg : Gl X "sorted" := by rfl)
    (hst : starEach [e] X.env = (false, eval e X.env) :: starEach [] X.env := by rfl) (h2 : backTo pos (starEach [e] X.env) = (false, eval e X.env) :: backTo pos (starEach [] X.env) := by rfl) (hpl : (backTo pos (starEach [e] X.env)).any (·.1) = false := by rfl)
    (hall : (backToKw pos (keywordEach [⟨some "key", l, kpos⟩] X.env)).all (·.1.isSome) = true := by rfl) (hnone : (backToKw pos (keywordEach [⟨some "key", l, kpos⟩] X.env)).any (·.1.isNone) = false := by rfl) :
    DE X W (.Call (.Name "sorted" p) [e] [⟨some "key", l, kpos⟩] pos) (dSortK gl js te) := by
  obtain ⟨params, body, scope, lpos, rfl, hdef, hfree, c, P, nm, TB, hcode, hmT, hn, hu⟩ := la.ex
  refine ⟨fun pins s σ H Q I ⟨z, ρ, M, R, E, hs, hm2, h, hk, hE⟩ => ?_⟩
  refine wpAny_Call_Name_kw (ld_blt I hg hm (show bootBuiltins "sorted" = some (.builtin "sorted") by decide +kernel) ?_ (by decide) (by decide))
  refine PyProof.Rows.callWith_kw (thn ((da_cons he da_nil hst).run pos pins s σ H (fun vs H1 => ∃ o M1 v, vs = [v] ∧ RelM ⟨X.K, z⟩ H1 M1 ∧ Rel ⟨X.K, z⟩ H1 M1 v o ∧ Ext ⟨X.K, z⟩ H M H1 M1 ∧ ∃ a kvs cs, ∃ key : NestedKey → Int, o = .ref a ∧ M1 a = some (.dn kvs) ∧ capD ρ js = some cs ∧
      (∀ kv ∈ kvs, gl (kD kv.1 :: cs) (fun d M2 => d = .int (key kv.1) ∧ M2 = M1) (fun _ _ => False) M1) ∧ ∀ ys : List NestedKey, ys.Perm (kvs.map (·.1)) → ys.Pairwise (fun x y => key x ≤ key y) → R (.lst (ys.map kD)) M1) I
    ⟨z, ρ, M, fun ds M1 => match ds with
      | [o] => ∃ a kvs cs, ∃ key : NestedKey → Int, o = .ref a ∧ M1 a = some (.dn kvs) ∧ capD ρ js = some cs ∧ (∀ kv ∈ kvs, gl (kD kv.1 :: cs) (fun d M2 => d = .int (key kv.1) ∧ M2 = M1) (fun _ _ => False) M1) ∧ ∀ ys : List NestedKey, ys.Perm (kvs.map (·.1)) → ys.Pairwise (fun x y => key x ≤ key y) → R (.lst (ys.map kD)) M1
      | _ => False, E, hs, hm2, h, fun ds M1 vs H1 h1 m1 r1 e1 => by
        match ds, h1, r1 with
        | [o], h1, r1 =>
          cases r1 with
          | cons r2 r3 =>
            cases r3
            exact ⟨o, M1, _, rfl, m1, r2, e1, h1⟩
        | [], h1, _ => exact h1.elim
        | _ :: _ :: _, h1, _ => exact h1.elim, hE⟩) fun us s1 ⟨vs, H1, I1, r1, o, M1, v, ev, m1, ro, e1, a, kvs, cs, key, eo, ea, hcap, hgl, hys⟩ => ?_) h2 hpl hall hnone
  subst ev eo
  cases ro
  obtain ⟨u, rfl, ru⟩ := r1.one
  obtain rfl : u = Value.ref a := ru
  have hs1 := hs.ext e1
  obtain ⟨ws, hw, rw'⟩ := capD_of hs1 hcap
  show wpAny _ _ (evalAll [(do let v ← eval (.Lambda params body scope lpos) X.env; standAt pos; pure v)]) _ _ s1
  refine wpAny_evalAll_cons (wpAny_bind (lam_make3 I1 TB hcode hmT hn hu m1 hdef (fun y hy e => (hfree y hy e).elim (fun k => I1.ok.has _ (.inl k)) fun k => I1.ok.has _ (.inr k)) fun f c' H2 s2 I2 m2 e2 f1 f2 => wpAny_bind (wpAny_standAt (wpAny_pure (wpAny_evalAll_nil ?_)))))
  show wpAny _ _ (call (.builtin "sorted") [.ref a] [(Str.ofString "key", .ref f)]) _ _ _
  have lm : LmOf X (.Lambda params body scope lpos) ⟨X.env.qual ++ "<lambda>", params, body, scope, cloFrom X.env.cells scope.names [], c'⟩ := ⟨lpos, rfl, rfl⟩
  obtain ⟨q1, q2, q3⟩ := hfr _ lm
  exact run_sortK I2 m2 ea (.clo f1 f2 (e2.all rw')) (L _ .refl _ lm) (Caps.made I2.ok q1 q2 hjs) hw hr hG hc hgl fun ys v H' p1 p2 m' r' e' => hk _ _ _ _ (hys ys p1 p2) m' r' (e1.trans (e2.trans e'))
theorem v_sortK {ρ : Sl} {R : PD} {E : XP} {M : MS} : dSortK gl js te ρ R E M = te ρ (fun o M1 => ∃ a kvs cs, ∃ key : NestedKey → Int, o = .ref a ∧ M1 a = some (.dn kvs) ∧ capD ρ js = some cs ∧
  (∀ kv ∈ kvs, gl (kD kv.1 :: cs) (fun d M2 => d = .int (key kv.1) ∧ M2 = M1) (fun _ _ => False) M1) ∧ ∀ ys : List NestedKey, ys.Perm (kvs.map (·.1)) → ys.Pairwise (fun x y => key x ≤ key y) → R (.lst (ys.map kD)) M1) E M := (rfl)
end
/-! x *= y -/
def augM : D → D → PD → MS → Prop
  | .int i, .int j, R, M => CMulX i j ∧ R (.int (i * j)) M
  | _, _, _, _ => False
theorem ip_mulX {X : Cx} : PIp X .Mult (fun x y H Q => ∃ i j, x = .int i ∧ y = .int j ∧ CMulX i j ∧ Q (.int (i * j)) H) := by
  intro pins s σ H x y v u Q I r1 r2 h
  obtain ⟨i, j, e1, e2, hc, q⟩ := h
  subst e1; subst e2
  obtain ⟨t, rfl⟩ := r1
  obtain ⟨t', rfl⟩ := r2
  exact imul_int ⟨.int _, H, I.tok _, ⟨_, rfl⟩, q⟩ (CMulW.ok (show CMulW i j from hc))
theorem a_mul {X : Cx} : PIpD X .Mult augM := by
  refine ⟨_, ip_mulX, fun z H M x y vx vy R Q m rx ry h hc => ?_⟩
  unfold augM at h
  split at h
  · cases rx; cases ry
    exact ⟨_, _, rfl, rfl, h.1, hc.here h.2 m (.int _)⟩
  · exact h.elim
theorem q_augM {i j : Int} {R : PD} {M : MS} : augM (.int i) (.int j) R M = (CMulX i j ∧ R (.int (i * j)) M) := (rfl)
theorem v_aug {i : Nat} {te : DTE} {f : D → D → PD → MS → Prop} {De : DEnds} {ρ : Sl} {M : MS} : dAug i te f De ρ M = match sl ρ i with
  | some x => te ρ (fun y M1 => f x y (fun d M2 => De.nx (ρ.set i (some d)) M2) M1) De.ex M
  | none => False := (rfl)
theorem q_augI {f : Int → Int → Int} {i j : Int} {R : PD} {M : MS} : augI f (.int i) (.int j) R M = R (.int (f i j)) M := (rfl)
/-! list.insert -/
def insD : D → List D → PD → MS → Prop
  | .ref l, [.int i, y], R, M => ∃ ds, M l = some (.lst ds) ∧ ds.length < sizeLine ∧ 0 ≤ i ∧ i < 2 ^ 63 ∧ R .non (um M l (.lst (ds.take i.toNat ++ [y] ++ ds.drop i.toNat)))
  | _, _, _, _ => False
theorem m_insert {X : Cx} : MtD X "list.insert" insD := by
  refine ⟨_, mt_insert, fun z H M x xs v vs R Q m rx ra h hc => ?_⟩
  unfold insD at h
  split at h
  · cases rx
    cases ra with
    | cons r1 r2 =>
      cases r2 with
      | cons r3 r4 =>
        cases r4
        cases r1
        obtain ⟨ds, ea, hz, h0, h1, q⟩ := h
        obtain ⟨ws, e1, r⟩ := m.at' _ _ ea
        exact ⟨_, ws, _, _, rfl, rfl, e1, by rw [r.length]; exact hz, h0, h1, hc _ _ _ _ q (write_lst m ea (((r.take _).append (.cons r3 .nil)).append (r.drop _))) .non (ext_write m ea)⟩
  · exact h.elim
theorem q_ins {l : Addr} {i : Int} {y : D} {ds : List D} {R : PD} {M : MS} (e : M l = some (.lst ds)) (h1 : ds.length < sizeLine) (h2 : 0 ≤ i) (h3 : i < 2 ^ 63) (q : R .non (um M l (.lst (ds.take i.toNat ++ [y] ++ ds.drop i.toNat)))) : insD (.ref l) [.int i, y] R M := ⟨ds, e, h1, h2, h3, q⟩
/-! d.setdefault(k, x) -/
def setdD : D → D → D → PD → MS → Prop
  | .ref a, i, x, R, M => ∃ k kvs, i = eK k ∧ M a = some (.dk kvs) ∧ kvs.length < sizeLine ∧ (match getM kvs k with
    | some d => R d M
    | none => R x (um M a (.dk (putM kvs k x))))
  | _, _, _, _, _ => False
def dSetdK (to ti tx : DTE) : DTE := fun ρ R E M => to ρ (fun o M1 => isDk M1 o ∧ ti ρ (fun i M2 => tx ρ (fun x M3 => setdD o i x R M3) E M2) E M1) E M
section
variable {X : Cx} {W : WX} {o i x : Expr} {to ti tx : DTE} {pos apos : Pos}
theorem getM_non {κ : Type} [DecidableEq κ] {K : ZK} {H : Hp} {M : MS} {k : κ} : ∀ {ws : List (κ × V)} {kvs : List (κ × D)}, RelK K H M ws kvs → getM kvs k = none → valV ws k = none
  | _, _, .nil, _ => rfl
  | _, _, .cons (k := k') (v := v') (d := d') (vs := vs) (ds := ds) a t, r => by
    by_cases c : k' = k
    · rw [show getM ((k', d') :: ds) k = some d' by simp [getM, List.find?_cons, c]] at r
      cases r
    · rw [valV_neg c]
      rw [show getM ((k', d') :: ds) k = getM ds k by simp [getM, List.find?_cons, c]] at r
      exact getM_non t r
theorem de_setdK (ho : DE X W o to) (he : DE X W i ti) (hf : DE X W x tx) (m : M2 X o "setdefault" apos i x pos := by exact ⟨by rfl, by rfl, by rfl, by rfl⟩) : DE X W (.Call (.Attribute o "setdefault" apos) [i, x] [] pos) (dSetdK to ti tx) :=
  imp (pe_dsetd ho he hf m) fun σ H Q ⟨z, ρ, M, R, E, hs, hm, h, hc, hE⟩ =>
    ⟨z, ρ, M, _, E, hs, hm, h, fun oo M1 vo H1 h1 m1 r1 e1 => by
      obtain ⟨hd, h1⟩ := h1
      have key : ∀ a kvs, oo = .ref a → M1 a = some (.dk kvs) → ∃ a', vo = .ref a' ∧ IsD H1 a' := by
        intro a kvs eo ea
        subst eo
        cases r1
        obtain ⟨ws, eh, rk⟩ := m1.at' _ _ ea
        exact ⟨_, rfl, .inl ⟨_, .inl eh⟩⟩
      obtain ⟨a, rfl, isd⟩ : ∃ a', vo = .ref a' ∧ IsD H1 a' := by
        cases oo with
        | ref a => obtain ⟨kvs, ea⟩ := hd; exact key a kvs rfl ea
        | _ => exact (show False from hd).elim
      refine ⟨a, rfl, isd, z, ρ, M1, _, E, hs.ext e1, m1, h1, fun ii M2 vi H2 h2 m2 r2 e2 => ⟨z, ρ, M2, _, E, hs.ext (e1.trans e2), m2, h2, fun xx M3 vx H3 h3 m3 r3 e3 => ?_, hE.ext (e1.trans e2)⟩, hE.ext e1⟩
      have h3 : setdD oo ii xx R M3 := h3
      have r1' := (e2.trans e3) _ _ r1
      have r2' := e3 _ _ r2
      unfold setdD at h3
      split at h3
      · obtain ⟨k, kvs, rfl, ea, hl, q⟩ := h3
        obtain ⟨ws, eh, rk⟩ := m3.at' _ _ ea
        cases r1'
        have ev := eK_rel r2'
        subst ev
        refine ⟨ws, k, eh, rfl, by rw [rk.length]; exact hl, fun v hv => ?_, fun hv => ?_⟩
        · cases eg : getM kvs k with
          | none => rw [getM_non rk eg] at hv; cases hv
          | some d =>
            rw [eg] at q
            obtain ⟨v', e4, rv⟩ := rk.getS eg
            rw [hv] at e4; cases e4
            exact hc _ _ _ _ q m3 rv (e1.trans (e2.trans e3))
        · cases eg : getM kvs k with
          | some d =>
            obtain ⟨v', e4, rv⟩ := rk.getS eg
            rw [hv] at e4; cases e4
          | none =>
            rw [eg] at q
            have w : Ext ⟨X.K, z⟩ H3 M3 (upd H3 a (.dK (putK ws k vx))) (um M3 a (.dk (putM kvs k xx))) := ext_write m3 ea
            exact hc _ _ _ _ q (relM_write m3 ea ⟨_, upd_same, w.keys (rk.put k r3)⟩) (w _ _ r3) (e1.trans (e2.trans (e3.trans w)))
      · exact h3.elim, hE⟩
theorem v_setdK {ρ : Sl} {R : PD} {E : XP} {M : MS} : dSetdK to ti tx ρ R E M = to ρ (fun o M1 => isDk M1 o ∧ ti ρ (fun i M2 => tx ρ (fun x M3 => setdD o i x R M3) E M2) E M1) E M := (rfl)
end
/-! sorted(d), d by whole numbers -/
def sorDKD : List D → PD → MS → Prop
  | [.ref a], R, M => ∃ kvs ks, M a = some (.dk kvs) ∧ kvs.map (·.1) = ks.map Sum.inl ∧ ks.length < 64 ∧ ∀ ys : List Int, ys.Perm ks → ys.Pairwise (· ≤ ·) → R (.lst (ys.map D.int)) M
  | _, _, _ => False
theorem c_sortedDK {X : Cx} (hc : X.calm = true) : CallD X (.builtin "sorted") sorDKD := by
  refine ⟨_, call_sortedDI hc, fun z H M xs vs R Q m ra h hc => ?_⟩
  unfold sorDKD at h
  split at h
  · cases ra with
    | cons x y =>
      cases y
      obtain ⟨kvs, ks, ea, ek, h64, q⟩ := h
      obtain ⟨ws, eh, rk⟩ := m.at' _ _ ea
      cases x
      exact ⟨_, ws, ks, rfl, .inl eh, by rw [relK_fst rk, ek], h64, fun ys l hp hw hl => hc _ _ _ _ (q ys hp hw) (relM_new m hl) (.lst (fz_new m hl) relA_ints) (ext_new m hl)⟩
  · exact h.elim
end L2.DL
/-! DLzze: a list of the store told as a value from a statement on (nobody changes it any more) -/
namespace L2.DL
open PySem PySem.Spec PyProof.Rows
variable [Tbs]
theorem dm_le {M : MS} {a : Addr} : Le (dm M a) M := fun b o e => by
  by_cases h : b = a
  · rw [h, dm_same] at e; cases e
  · rw [dm_ne h] at e; exact e
def dFrz (i : Nat) (t : DTS) : DTS := fun De ρ M => match sl ρ i with
  | some (.ref a) => ∃ ds, M a = some (.lst ds) ∧ t De (ρ.set i (some (.lst ds))) (dm M a)
  | _ => False
theorem ds_frz {X : Cx} {W : WX} {st : Stmt} {t : DTS} (i : Nat) (h : DS X W st t) : DS X W st (dFrz i t) :=
  impS h fun De σ H ⟨z, ρ, M, Dd, hs, hm, hh, L⟩ => by
    unfold dFrz at hh
    split at hh
    · next a q =>
      obtain ⟨ds, ea, f⟩ := hh
      have l : Le (dm M a) M := dm_le
      refine ⟨z, ρ.set i (some (.lst ds)), dm M a, Dd, ⟨by rw [List.length_set]; exact hs.1, fun j d hj => ?_⟩, hm.le l, f, L.ext (Ext.le l)⟩
      by_cases c : j = i
      · subst c
        have e0 := sl_get q
        rw [List.getElem?_set_self (List.getElem?_eq_some_iff.mp e0).1] at hj
        cases hj
        obtain ⟨v, e1, r1⟩ := hs.2 j _ e0
        exact ⟨v, e1, (Wk.frz l ea dm_same).2 _ H v hm r1⟩
      · rw [List.getElem?_set_ne (fun z => c z.symm)] at hj
        exact (hs.ext (Ext.le l)).2 j d hj
    · exact hh.elim
section
variable {i : Nat} {t : DTS} {ρ : Sl} {De : DEnds} {M : MS}
theorem v_frz : dFrz i t De ρ M = match sl ρ i with
  | some (.ref a) => ∃ ds, M a = some (.lst ds) ∧ t De (ρ.set i (some (.lst ds))) (dm M a)
  | _ => False := (rfl)
end
end L2.DL
namespace L2.DL
open PySem PySem.Spec PyProof.Rows LamX NdefX
variable [Tbs]
local macro_rules | `(tactic| walk_at "dd") => `(tactic| simp only [v_seq, v_next, v_never, v_set, v_ret, v_retN, v_ifS, v_expr, v_asg, v_par3, v_asgS2, q_lstT, q_lstL, q_lstNT, v_par, v_sub, v_for, v_forN, v_forC, v_break, v_cont, v_nm, v_tp, v_tpL, v_tpN, v_tpC, v_var, v_sl0, v_slS, v_c, v_nil, v_cons, v_tup, v_lst, v_lstN, v_op, v_un, v_ix, v_tst, v_tru, v_and, v_or, v_not, v_andV, v_orV, v_notV, v_if, v_ifV, q_selI, v_chain, v_noP, v_part, v_sl, v_cb, v_mt, v_call, v_items, v_enum, q_enuT, q_enuL, v_zip, v_stepL, q_and1, v_callN, v_callV, v_pmN, v_pmC, v_gt0, v_gtS, v_apN, v_apC, v_callH, v_lamE, v_consL, v_callC, v_capN, v_capC, v_getK, v_putK, v_get2K, v_dict0, v_disp, v_mt0, v_prN, v_prC, v_forK, v_frz, v_sortK, v_setdK, q_augM, v_aug, q_augI, q_zipT, q_zipL, v_rng1, v_rng2, v_lc, v_lcN, v_lcC, v_forL, v_lcL, dm_um, um_dm, v_yes, v_wN, v_wC, v_st0, v_stC, v_stN,
  q_add, q_mulS, q_addT, q_addS, q_addL, q_sub, q_mul, q_fdiv, q_mod, q_pow, q_neg, q_ii, q_eqI, q_eqS, q_eqB, q_is, q_it0, q_it1, q_it2, q_it3, q_ixT, q_ixL, q_ixR, q_setL, q_lenT, q_lenL, q_lenR, q_slT, q_slL, q_slC, q_app, q_ext, q_isL, q_strI, q_strS, v_fmt, q_fmtI, q_fmtS, v_lrng1, v_lrng2, v_chain3, v_raise, v_isX, v_fldX, v_try, v_join, v_jsN, v_jsC, q_strW, v_rng3, q_isLL, q_cntB, q_cntI, v_lz, q_zs, v_step, v_rev, q_revT, q_revL, q_revR, q_addN, q_addNL, q_addR, q_slR, q_isX, q_isB, q_isi_non_int, q_isi_non_bool, q_isi_non_str, q_isi_non_tuple, q_isi_non_list, q_isi_bl_int, q_isi_bl_bool, q_isi_bl_str, q_isi_bl_tuple, q_isi_bl_list, q_isi_int_int, q_isi_int_bool, q_isi_int_str, q_isi_int_tuple, q_isi_int_list, q_isi_str_int, q_isi_str_bool, q_isi_str_str, q_isi_str_tuple, q_isi_str_list, q_isi_tup_int, q_isi_tup_bool, q_isi_tup_str, q_isi_tup_tuple, q_isi_tup_list, q_isi_lst_int, q_isi_lst_bool, q_isi_lst_str, q_isi_lst_tuple, q_isi_lst_list, q_tupL, q_tupT, q_tupR, q_tb, q_tn, q_ti, q_tt, q_tl, q_abs, q_min, q_max, q_intI, q_intB, q_dnx, q_drt, q_dbk, q_dct, q_dex, q_ixN0, q_ixN1, q_ixN2, q_ixN3, exists_and_left, um_same, um_um,
  List.set_cons_zero, List.set_cons_succ, List.length_cons, List.length_nil, isNon, id, Int.lt_irrefl, decide_eq_true_eq, Bool.not_eq_true', decide_eq_false_iff_not, Bool.not_false, Bool.not_true, not_true_eq_false, not_false_eq_true, if_true, if_false, Bool.false_eq_true, ite_true, ite_false, eq_self, true_and, and_true, Option.some.injEq, MO.lst.injEq, exists_eq_left', exists_eq_left, ends])
local macro_rules | `(tactic| walk_at "dn") => `(tactic| simp only [v_seq, v_next, v_never, v_set, v_ret, v_retN, v_ifS, v_expr, v_asg, v_par3, v_asgS2, q_lstT, q_lstL, q_lstNT, v_par, v_sub, v_for, v_break, v_cont, v_nm, v_tp, v_tpL, v_tpN, v_tpC, v_var, v_sl0, v_slS, v_c, v_nil, v_cons, v_tup, v_lst, v_lstN, v_op, v_un, v_ix, v_tst, v_tru, v_and, v_or, v_not, v_andV, v_orV, v_notV, v_if, v_ifV, q_selI, v_chain, v_noP, v_part, v_sl, v_cb, v_mt, v_call, v_items, v_enum, q_enuT, q_enuL, v_zip, v_stepL, q_and1, v_callN, v_callV, v_pmN, v_pmC, v_gt0, v_gtS, v_apN, v_apC, v_callH, v_lamE, v_consL, v_callC, v_capN, v_capC, v_getK, v_putK, v_get2K, v_dict0, v_disp, v_mt0, v_prN, v_prC, v_forK, v_frz, v_sortK, v_setdK, q_augM, v_aug, q_augI, q_zipT, q_zipL, v_rng1, v_rng2, v_lc, v_forL, v_lcL, dm_um, um_dm, v_yes, v_wN, v_wC, v_st0, v_stC, v_stN,
  q_add, q_mulS, q_addT, q_addS, q_addL, q_sub, q_mul, q_fdiv, q_mod, q_pow, q_neg, q_ii, q_eqI, q_eqS, q_eqB, q_is, q_it0, q_it1, q_it2, q_it3, q_ixT, q_ixL, q_ixR, q_setL, q_lenT, q_lenL, q_lenR, q_slT, q_slL, q_slC, q_app, q_ext, q_isL, q_strI, q_strS, v_fmt, q_fmtI, q_fmtS, v_lrng1, v_lrng2, v_chain3, v_raise, v_isX, v_fldX, v_try, v_join, v_jsN, v_jsC, q_strW, v_rng3, q_isLL, q_cntB, q_cntI, v_lz, q_zs, v_step, v_rev, q_revT, q_revL, q_revR, q_addN, q_addNL, q_addR, q_slR, q_isX, q_isB, q_isi_non_int, q_isi_non_bool, q_isi_non_str, q_isi_non_tuple, q_isi_non_list, q_isi_bl_int, q_isi_bl_bool, q_isi_bl_str, q_isi_bl_tuple, q_isi_bl_list, q_isi_int_int, q_isi_int_bool, q_isi_int_str, q_isi_int_tuple, q_isi_int_list, q_isi_str_int, q_isi_str_bool, q_isi_str_str, q_isi_str_tuple, q_isi_str_list, q_isi_tup_int, q_isi_tup_bool, q_isi_tup_str, q_isi_tup_tuple, q_isi_tup_list, q_isi_lst_int, q_isi_lst_bool, q_isi_lst_str, q_isi_lst_tuple, q_isi_lst_list, q_tupL, q_tupT, q_tupR, q_tb, q_tn, q_ti, q_tt, q_tl, q_abs, q_min, q_max, q_intI, q_intB, q_dnx, q_drt, q_dbk, q_dct, q_dex, q_ixN0, q_ixN1, q_ixN2, q_ixN3, exists_and_left, um_same, um_um,
  List.set_cons_zero, List.set_cons_succ, List.length_cons, List.length_nil, isNon, id, Int.lt_irrefl, decide_eq_true_eq, Bool.not_eq_true', decide_eq_false_iff_not, Bool.not_false, Bool.not_true, not_true_eq_false, not_false_eq_true, if_true, if_false, Bool.false_eq_true, ite_true, ite_false, eq_self, true_and, and_true, Option.some.injEq, MO.lst.injEq, exists_eq_left', exists_eq_left, ends])

/-! points, rings, paths as data; the laws' drawn ones -/
abbrev Pt := Int × Int
def ePt (p : Pt) : D := .tup [.int p.1, .int p.2]
def eRing (r : List Pt) : D := .tup (r.map ePt)
def ePath (P : List (List Pt)) : D := .tup (P.map eRing)

/-! small helpers of the walks -/
theorem it_lit {ns : List Int} {P : Int → Prop} (hp : ∀ i, i ∈ ns → P i) {r : Int} {R : PD} {M : MS} (h0 : 0 ≤ r) (h1 : r < ns.length) (k : ∀ i, P i → R (.int i) M) : itD (ns.map D.int) r R M := by
  refine it_in h0 (by rw [List.length_map]; exact h1) fun d hd => ?_
  obtain ⟨i, hi, rfl⟩ := List.mem_map.mp hd
  exact k i (hp i hi)
theorem lg_of {i : Int} (h : -1000000000 ≤ i ∧ i ≤ 1000000000) : i.natAbs.log2 < 31 := (bd_of (n := 31) (show i.natAbs < 2 ^ 31 by omega)).log (by decide)
theorem cms {i j : Int} (hi : -1000000000 ≤ i ∧ i ≤ 1000000000) (hj : -1000000000 ≤ j ∧ j ≤ 1000000000) : CMulX i j := (bd_of (n := 31) (show i.natAbs < 2 ^ 31 by omega)).cmul (bd_of (n := 31) (show j.natAbs < 2 ^ 31 by omega)) (by decide) (by decide)
theorem cds {i j : Int} (h0 : j ≠ 0) (hj : -1000000000 ≤ j ∧ j ≤ 1000000000) : CDivX i j := ⟨h0, Nat.lt_trans (lg_of hj) (by decide)⟩
theorem mulB {a b A B : Int} (ha : 0 ≤ a ∧ a ≤ A) (hb : 0 ≤ b ∧ b ≤ B) : 0 ≤ a * b ∧ a * b ≤ A * B := ⟨Int.mul_nonneg ha.1 hb.1, Int.mul_le_mul ha.2 hb.2 hb.1 (by omega)⟩
theorem slz {n : Nat} (h : n ≤ 100000) : n ≤ sizeLine := by rw [sizeLine_eq]; omega
theorem slt {n : Nat} (h : n ≤ 100000) : n < sizeLine := by rw [sizeLine_eq]; omega
theorem rng_c {lo : Int} {n : Nat} : rng lo (n + 1) = .int lo :: rng (lo + 1) n := by
  unfold rng
  rw [List.range_succ_eq_map, List.map_cons, List.map_map]
  congr 1
  · show D.int (lo + 0) = _; rw [Int.add_zero]
  · exact List.map_congr_left fun i _ => by show D.int (lo + ((i + 1 : Nat) : Int)) = D.int (lo + 1 + (i : Int)); congr 1; omega
theorem it_at {ds : List D} {i : Int} {x : D} {R : PD} {M : MS} (n : Nat) (e : i = n) (h : ds[n]? = some x) (k : R x M) : itD ds i R M := by
  subst e
  rw [q_it h]
  exact k
theorem bdi {n : Nat} {i : Int} (h : i.natAbs < 2 ^ n) : Bd n i := h
theorem cut_take {α : Type} (xs : List α) (k : Nat) : cut xs none (some (k : Int)) = xs.take k := by
  unfold cut
  rw [HT.sIx_none, HT.sIx_nat, List.drop_zero, Nat.sub_zero, ← List.take_eq_take_min]
theorem cut_take' {α : Type} (xs : List α) {m : Int} (h : 0 ≤ m) : cut xs none (some m) = xs.take m.toNat := by
  obtain ⟨n, rfl⟩ : ∃ n : Nat, m = n := ⟨m.toNat, by omega⟩
  exact cut_take xs n
theorem cut_drop {α : Type} (xs : List α) (k : Nat) : cut xs (some (k : Int)) none = xs.drop k := by
  unfold cut
  rw [HT.sIx_none, HT.sIx_nat]
  by_cases h : k ≤ xs.length
  · rw [Nat.min_eq_left h, List.take_of_length_le (by rw [List.length_drop]; omega)]
  · rw [List.drop_eq_nil_of_le (show xs.length ≤ min k xs.length by omega), List.drop_eq_nil_of_le (show xs.length ≤ k by omega), List.take_nil]
theorem it_last {ds : List D} {x : D} {R : PD} {M : MS} (h : ds[ds.length - 1]? = some x) (k : R x M) : itD ds (-1) R M := by
  have hl : ds ≠ [] := fun e => by rw [e] at h; cases h
  have hp := List.length_pos_iff.mpr hl
  have e : atI ds (-1) = some x := by
    unfold atI
    have : ixN ds.length (-1) = some (ds.length - 1) := by
      unfold ixN
      simp
      omega
    rw [this]
    exact h
  unfold itD
  rw [e]
  exact k

/-! fractions: the program's functions -/
def g_common_divisor : G := fun ds R _ M => match ds with
  | [.int a, .int b] => 0 ≤ a ∧ 0 ≤ b ∧ R (.int ((Int.gcd a b : Nat) : Int)) M
  | _ => False
abbrev n_common_divisor : List Str := ["one", "other"]
def tb_common_divisor : DTS :=
  (dSeq (dWhile (dTst (dOp (eqD fun k => !k) (dVar 1) (dC (.int 0)))) (dPar 0 1 (dCons (dVar 1) (dCons (dOp modD (dVar 0) (dVar 1)) dNil))))
  (dRet (dVar 0)))
theorem l_common_divisor : ∀ ds R E M, g_common_divisor ds R E M → ds.length = 2 := by
  intro ds R E M h
  unfold g_common_divisor at h
  split at h
  · rfl
  · exact h.elim
theorem h_common_divisor : Hg g_common_divisor tb_common_divisor n_common_divisor := by
  intro ds R RE M h
  unfold g_common_divisor at h
  split at h
  · rename_i a b
    obtain ⟨ha, hb, k⟩ := h
    unfold tb_common_divisor
    walk_at "dd"
    refine while_ind (fun m ρ M' => ∃ x y : Int, 0 ≤ x ∧ 0 ≤ y ∧ Int.gcd x y = Int.gcd a b ∧ m = y.toNat ∧ M' = M ∧ ρ = [some (.int x), some (.int y)]) ?_ ⟨a, b, ha, hb, rfl, rfl, rfl, rfl⟩
    rintro m ρ M' Kx ⟨x, y, hx, hy, hg, rfl, rfl, rfl⟩ hk
    walk_at "dd"
    by_cases e : y = 0
    · subst e
      try walk_at "dd"
      rw [Int.gcd_zero_right] at hg
      have : x = ((Int.gcd a b : Nat) : Int) := by omega
      rw [this]
      exact Rw.of k
    · simp only [e, if_true, if_false, decide_false, Bool.not_false, not_false_eq_true]
      try walk_at "dd"
      have := fmod_nn (i := x) (n := y) (by omega)
      exact ⟨e, hk _ _ _ (by omega) ⟨y, x.fmod y, by omega, this.1, (gcd_step hx (by omega)).trans hg, rfl, rfl, rfl⟩⟩
  · exact h.elim


def g_ratio : G := fun ds R _ M => match ds with
  | [.int a, .int b] => b ≠ 0 ∧ Bd 8000 a ∧ Bd 8000 b ∧ R (eF (Rat.divInt a b)) M
  | _ => False
abbrev n_ratio : List Str := ["a", "b", "divisor"]
def tb_ratio : DTS :=
  (dSeq (dIfS (dTst (dOp (eqD id) (dVar 1) (dC (.int 0)))) dNever dNext)
  (dSeq (dSet 2 (dCall g_common_divisor (dCons (dCB absD (dCons (dVar 0) dNil)) (dCons (dCB absD (dCons (dVar 1) dNil)) dNil))))
  (dSeq (dIfS (dTst (dOp ltD (dVar 1) (dC (.int 0)))) (dSet 2 (dOp subD (dC (.int 0)) (dVar 2))) dNext)
  (dRet (dTup (dCons (dOp fdivD (dVar 0) (dVar 2)) (dCons (dOp fdivD (dVar 1) (dVar 2)) dNil)))))))
theorem l_ratio : ∀ ds R E M, g_ratio ds R E M → ds.length = 2 := by
  intro ds R E M h
  unfold g_ratio at h
  split at h
  · rfl
  · exact h.elim
theorem abs_gcd {a b : Int} : Int.gcd (if a < 0 then -a else a) (if b < 0 then -b else b) = Int.gcd a b := by
  split <;> split <;> simp only [Int.gcd_neg, Int.neg_gcd]
theorem h_ratio : Hg g_ratio tb_ratio n_ratio := by
  intro ds R RE M h
  unfold g_ratio at h
  split at h
  · rename_i a b
    obtain ⟨h0, ha, hb, k⟩ := h
    unfold tb_ratio
    walk_at "dd"
    rw [if_neg h0]
    try walk_at "dd"
    refine ⟨by split <;> omega, by split <;> omega, ?_⟩
    try walk_at "dd"
    rw [abs_gcd]
    have hg0 : ((Int.gcd a b : Nat) : Int) ≠ 0 := by
      have := Int.gcd_pos_of_ne_zero_right a h0
      omega
    have hgb : Bd 8000 ((Int.gcd a b : Nat) : Int) := hb.of_le (by
      rw [Int.natAbs_natCast]
      exact Nat.le_of_dvd (by omega) (Int.gcd_dvd_natAbs_right a b))
    have hgl : ((Int.gcd a b : Nat) : Int).natAbs.log2 < 9000 := Nat.lt_of_lt_of_le (hgb.log (by decide)) (by decide)
    by_cases hn : b < 0
    · simp only [hn, if_true]
      try walk_at "dd"
      have hgl2 : (0 - ((Int.gcd a b : Nat) : Int)).natAbs.log2 < 9000 := by rw [Int.zero_sub, Int.natAbs_neg]; exact hgl
      rw [ratn_num hn rfl, ratn_den hn rfl]
      exact ⟨⟨by omega, hgl2⟩, ⟨by omega, hgl2⟩, by decide, Rw.of k⟩
    · simp only [hn, if_false]
      try walk_at "dd"
      rw [rat_num (by omega) rfl, rat_den (by omega) rfl]
      exact ⟨⟨hg0, hgl⟩, ⟨hg0, hgl⟩, by decide, Rw.of k⟩
  · exact h.elim

/-- of two fractions -/
def gF2 (f : Rat → Rat → Rat) : G := fun ds R _ M => match ds with
  | [d, e] => ∃ p q n m, d = eF p ∧ e = eF q ∧ Sz n p ∧ Sz m q ∧ n + m ≤ 7000 ∧ R (eF (f p q)) M
  | _ => False
theorem lF2 {f : Rat → Rat → Rat} : ∀ ds R E M, gF2 f ds R E M → ds.length = 2 := by
  intro ds R E M h
  unfold gF2 at h
  split at h
  · rfl
  · exact h.elim
theorem useF2 {f : Rat → Rat → Rat} {p q : Rat} {R : PD} {E : Ex → MS → Prop} {M : MS} (n m : Nat) (h1 : Sz n p) (h2 : Sz m q) (hn : n + m ≤ 7000) (k : R (eF (f p q)) M) : gF2 f [eF p, eF q] R E M := ⟨p, q, n, m, rfl, rfl, h1, h2, hn, k⟩
def g_added : G := gF2 (· + ·)
abbrev n_added : List Str := ["one", "other"]
def tb_added : DTS :=
  (dRet (dCall g_ratio (dCons (dOp addD (dOp mulD (dIx (dVar 0) (dC (.int 0))) (dIx (dVar 1) (dC (.int 1)))) (dOp mulD (dIx (dVar 1) (dC (.int 0))) (dIx (dVar 0) (dC (.int 1))))) (dCons (dOp mulD (dIx (dVar 0) (dC (.int 1))) (dIx (dVar 1) (dC (.int 1)))) dNil))))
theorem l_added : ∀ ds R E M, g_added ds R E M → ds.length = 2 := lF2
theorem h_added : Hg g_added tb_added n_added := by
  intro ds R RE M h
  unfold g_added gF2 at h
  split at h
  · obtain ⟨p, q, n, m, rfl, rfl, s1, s2, hn, k⟩ := h
    unfold tb_added eF
    walk_at "dd"
    have e := s2.num.mul s1.den
    rw [Nat.add_comm] at e
    have a1 := (s1.num.mul s2.den).add e
    refine ⟨s1.num.cmul s2.den (by omega) (by omega), s2.num.cmul s1.den (by omega) (by omega), s1.den.cmul s2.den (by omega) (by omega), Int.mul_ne_zero (den_ne p) (den_ne q), a1.mono (by omega), (s1.den.mul s2.den).mono (by omega), ?_⟩
    rw [add_eq]
    exact Rw.of k
  · exact h.elim




/-! fractions: what more the program has -/
theorem div_eq (p q : Rat) (h : q.num ≠ 0) : Rat.divInt (p.num * q.den) (p.den * q.num) = p / q := by
  rw [Rat.div_def, Rat.inv_def, ← Rat.divInt_mul_divInt, self_eq]

theorem num_ne {q : Rat} (h : q ≠ 0) : q.num ≠ 0 := fun e => h (Rat.num_eq_zero.mp e)
theorem Sz.div {n m : Nat} {p q : Rat} (h : Sz n p) (k : Sz m q) (h0 : q ≠ 0) : Sz (n + m) (p / q) := by
  rw [← div_eq p q (num_ne h0)]
  exact sz_divInt (h.num.mul k.den) (h.den.mul k.num) (Int.mul_ne_zero (den_ne p) (num_ne h0))


def g_is_below : G := fun ds R _ M => match ds with
  | [d, e] => ∃ p q n m, d = eF p ∧ e = eF q ∧ Sz n p ∧ Sz m q ∧ n + m ≤ 7000 ∧ R (.bl (decide (p < q))) M
  | _ => False
abbrev n_is_below : List Str := ["one", "other"]
def tb_is_below : DTS :=
  (dRet (dOp ltD (dOp mulD (dIx (dVar 0) (dC (.int 0))) (dIx (dVar 1) (dC (.int 1)))) (dOp mulD (dIx (dVar 1) (dC (.int 0))) (dIx (dVar 0) (dC (.int 1))))))
theorem l_is_below : ∀ ds R E M, g_is_below ds R E M → ds.length = 2 := by
  intro ds R E M h
  unfold g_is_below at h
  split at h
  · rfl
  · exact h.elim
theorem use_below {p q : Rat} {R : PD} {E : Ex → MS → Prop} {M : MS} (n m : Nat) (h1 : Sz n p) (h2 : Sz m q) (hn : n + m ≤ 7000) (k : R (.bl (decide (p < q))) M) : g_is_below [eF p, eF q] R E M := ⟨p, q, n, m, rfl, rfl, h1, h2, hn, k⟩
theorem h_is_below : Hg g_is_below tb_is_below n_is_below := by
  intro ds R RE M h
  unfold g_is_below at h
  split at h
  · obtain ⟨p, q, n, m, rfl, rfl, s1, s2, hn, k⟩ := h
    unfold tb_is_below eF
    walk_at "dd"
    refine ⟨s1.num.cmul s2.den (by omega) (by omega), s2.num.cmul s1.den (by omega) (by omega), ?_⟩
    rw [show decide (p.num * q.den < q.num * p.den) = decide (p < q) from decide_eq_decide.mpr (Rat.lt_iff p q).symm]
    exact Rw.of k
  · exact h.elim





/-! sides: ring_sides, sides_of -/
def eSide (s : Pt × Pt) : D := .tup [ePt s.1, ePt s.2]
def sidesR (r : List Pt) : List (Pt × Pt) := r.zip (r.drop 1 ++ r.take 1)
theorem sidesR_len (r : List Pt) : (sidesR r).length = r.length := by
  unfold sidesR
  rw [List.length_zip, List.length_append, List.length_drop, List.length_take]
  omega
theorem sIx_1 (n d : Nat) : HT.sIx n d (some 1) = min 1 n := by
  unfold HT.sIx
  rfl
theorem sIx_none (n d : Nat) : HT.sIx n d none = d := rfl
theorem cut_from1 {α : Type} (xs : List α) : cut xs (some 1) none = xs.drop 1 := by
  unfold cut
  rw [sIx_1, sIx_none]
  cases xs with
  | nil => rfl
  | cons x xs =>
    rw [show min 1 (x :: xs).length = 1 by rw [List.length_cons]; omega]
    exact List.take_of_length_le (by simp)
theorem cut_to1 {α : Type} (xs : List α) : cut xs none (some 1) = xs.take 1 := by
  unfold cut
  rw [sIx_1, sIx_none]
  cases xs with
  | nil => rfl
  | cons x xs =>
    rw [show min 1 (x :: xs).length = 1 by rw [List.length_cons]; omega]
    rfl
def g_ring_sides : G := fun ds R _ M => match ds with
  | [d] => ∃ r : List Pt, d = eRing r ∧ r.length ≤ 1000000 ∧ R (.lst ((sidesR r).map eSide)) M
  | _ => False
abbrev n_ring_sides : List Str := ["ring"]
def tb_ring_sides : DTS :=
  (dRet (dLZ (dCons (dVar 0) (dCons (dOp addD (dSl (dVar 0) (dPart (dC (.int 1))) dNoPart) (dSl (dVar 0) dNoPart (dPart (dC (.int 1))))) dNil))))
theorem l_ring_sides : ∀ ds R E M, g_ring_sides ds R E M → ds.length = 1 := by
  intro ds R E M h
  unfold g_ring_sides at h
  split at h
  · rfl
  · exact h.elim
theorem h_ring_sides : Hg g_ring_sides tb_ring_sides n_ring_sides := by
  intro ds R RE M h
  unfold g_ring_sides at h
  split at h
  · obtain ⟨r, rfl, hn, k⟩ := h
    unfold tb_ring_sides eRing
    walk_at "dd"
    rw [cut_from1, cut_to1, ← List.map_drop, ← List.map_take, List.length_map, List.length_map, List.length_drop, List.length_take, ← List.map_append, List.length_map, List.length_map, List.length_append, List.length_drop, List.length_take]
    refine ⟨by rw [sizeLine_eq]; omega, by omega, ?_⟩
    rw [zipD_map]
    exact Rw.of k
  · exact h.elim
def sidesP (P : List (List Pt)) : List (Pt × Pt) := P.flatMap sidesR
theorem sidesP_len : ∀ P : List (List Pt), (sidesP P).length = P.flatten.length
  | [] => rfl
  | r :: P => by
    have h := sidesP_len P
    unfold sidesP at h ⊢
    rw [List.flatMap_cons, List.length_append, List.flatten_cons, List.length_append, h, sidesR_len]
def g_sides_of : G := fun ds R _ M => match ds with
  | [d] => ∃ P : List (List Pt), d = ePath P ∧ P.flatten.length ≤ 1000000 ∧ R (.tup ((sidesP P).map eSide)) M
  | _ => False
abbrev n_sides_of : List Str := ["path", "found", "ring"]
def tb_sides_of : DTS :=
  (dSeq (dSet 1 (dLstN dNil))
  (dSeq (dFor (dItems (dVar 0)) (.nm 2) (dExpr (dMt extD (dVar 1) (dCons (dCall g_ring_sides (dCons (dVar 2) dNil)) dNil))))
  (dRet (dCB tupD (dCons (dVar 1) dNil)))))
theorem l_sides_of : ∀ ds R E M, g_sides_of ds R E M → ds.length = 1 := by
  intro ds R E M h
  unfold g_sides_of at h
  split at h
  · rfl
  · exact h.elim
theorem h_sides_of : Hg g_sides_of tb_sides_of n_sides_of := by
  intro ds R RE M h
  unfold g_sides_of at h
  split at h
  · obtain ⟨P, rfl, hn, k⟩ := h
    unfold tb_sides_of
    walk_at "dd"
    refine ⟨by decide, fun p hp => ?_⟩
    unfold ePath
    try walk_at "dd"
    refine for_ind (fun its ρ M' => ∃ Q S : List (List Pt), its = S.map eRing ∧ P = Q ++ S ∧ M' = um M p (.lst ((sidesP Q).map eSide)) ∧ ∃ d2, ρ = [some (.tup (P.map eRing)), some (.ref p), d2]) ?_ ?_ ⟨[], P, rfl, rfl, rfl, none, rfl⟩
    · rintro d its ρ M' Kx ⟨Q, S, e1, e2, rfl, d2, rfl⟩ hk
      cases S with
      | nil => cases e1
      | cons r S =>
        cases e1
        subst e2
        walk_at "dd"
        have hl1 := sidesP_len Q
        have hl2 := sidesR_len r
        rw [List.flatten_append, List.flatten_cons, List.length_append, List.length_append] at hn
        refine ⟨⟨_, rfl⟩, r, rfl, by omega, ?_⟩
        try walk_at "dd"
        refine ⟨_, rfl, by rw [List.length_map, List.length_map, sizeLine_eq]; omega, hk _ _ ⟨Q ++ [r], S, rfl, by rw [List.append_assoc]; rfl, ?_, _, rfl⟩⟩
        have e : sidesP (Q ++ [r]) = sidesP Q ++ sidesR r := by
          unfold sidesP
          rw [List.flatMap_append, List.flatMap_cons, List.flatMap_nil, List.append_nil]
        rw [e, List.map_append]
    · rintro ρ M' ⟨Q, S, e1, e2, rfl, d2, rfl⟩
      have hS : S = [] := by cases S <;> first | rfl | cases e1
      subst hS
      rw [List.append_nil] at e2
      subst e2
      walk_at "dd"
      exact Rw.le k (Le.um hp)
  · exact h.elim

/-! heights of sides: what rays1-3 have of them, without the rays *)-/
theorem sz_int' {n : Nat} {i : Int} (h : Bd n i) (hn : 0 < n) : Sz n (i : Rat) := ⟨h, bd_of (Nat.one_lt_two_pow (by omega))⟩
/-- both coordinates below 2^20 -/
def PtB (p : Pt) : Prop := Bd 20 p.1 ∧ Bd 20 p.2
theorem mem_sidesR {r : List Pt} {s : Pt × Pt} (h : s ∈ sidesR r) : s.1 ∈ r ∧ s.2 ∈ r := by
  unfold sidesR at h
  obtain ⟨a, b⟩ := s
  have := List.of_mem_zip h
  refine ⟨this.1, ?_⟩
  rcases List.mem_append.mp this.2 with e | e
  · exact List.mem_of_mem_drop e
  · exact List.mem_of_mem_take e
theorem mem_sidesP {P : List (List Pt)} {s : Pt × Pt} (h : s ∈ sidesP P) : ∃ r, r ∈ P ∧ s.1 ∈ r ∧ s.2 ∈ r := by
  unfold sidesP at h
  obtain ⟨r, hr, hs⟩ := List.mem_flatMap.mp h
  exact ⟨r, hr, mem_sidesR hs⟩
def PathB (P : List (List Pt)) : Prop := P.flatten.length ≤ 10000 ∧ ∀ r, r ∈ P → ∀ p, p ∈ r → PtB p
theorem PathB.side {P : List (List Pt)} (h : PathB P) {s : Pt × Pt} (hs : s ∈ sidesP P) : PtB s.1 ∧ PtB s.2 := by
  obtain ⟨r, hr, h1, h2⟩ := mem_sidesP hs
  exact ⟨h.2 r hr _ h1, h.2 r hr _ h2⟩
theorem use_sides {P : List (List Pt)} {R : PD} {E : Ex → MS → Prop} {M : MS} (h : PathB P) (k : R (.tup ((sidesP P).map eSide)) M) : g_sides_of [ePath P] R E M := ⟨P, rfl, by have := h.1; omega, k⟩

theorem eF_int (n : Int) : D.tup [.int n, .int 1] = eF (n : Rat) := rfl
theorem qy0 {q : Rat} {R : PD} {M : MS} : ixD (eF q) (.int 0) R M = R (.int q.num) M := by unfold eF; rw [q_ixT, q_it0]
theorem qy1 {q : Rat} {R : PD} {M : MS} : ixD (eF q) (.int 1) R M = R (.int (q.den : Int)) M := by unfold eF; rw [q_ixT, q_it1]
theorem use_ratio {a b : Int} {R : PD} {E : Ex → MS → Prop} {M : MS} (h0 : b ≠ 0) (ha : Bd 8000 a) (hb : Bd 8000 b) (k : R (eF (Rat.divInt a b)) M) : g_ratio [.int a, .int b] R E M := ⟨h0, ha, hb, k⟩
def eO : Option Rat → D
  | none => .non
  | some q => eF q
abbrev mnI (i j : Int) : Int := if j < i then j else i
abbrev mxI (i j : Int) : Int := if j > i then j else i
def atX (p q : Pt) (h : Rat) : Rat := (p.1 : Rat) + Rat.divInt ((q.1 - p.1) * (h.num - p.2 * h.den)) ((q.2 - p.2) * h.den)
def atH (p q : Pt) (h : Rat) : Option Rat := if p.2 = q.2 ∨ h < (mnI p.2 q.2 : Int) ∨ ((mxI p.2 q.2 : Int) : Rat) < h then none else some (atX p q h)
def g_at_height : G := fun ds R _ M => match ds with
  | [d, e] => ∃ p q h, d = .tup [ePt p, ePt q] ∧ e = eF h ∧ PtB p ∧ PtB q ∧ Sz 100 h ∧ R (eO (atH p q h)) M
  | _ => False
abbrev n_at_height : List Str := ["side", "height", "ax", "ay", "bx", "by"]
def tb_at_height : DTS :=
  (dSeq (dAsg (.tp [(.tp [(.nm 2), (.nm 3)]), (.tp [(.nm 4), (.nm 5)])]) (dVar 0))
  (dSeq (dIfS (dOr (dTst (dOp (eqD id) (dVar 3) (dVar 5))) (dOr (dTru (dCall g_is_below (dCons (dVar 1) (dCons (dTup (dCons (dCB minD (dCons (dVar 3) (dCons (dVar 5) dNil))) (dCons (dC (.int 1)) dNil))) dNil)))) (dTru (dCall g_is_below (dCons (dTup (dCons (dCB maxD (dCons (dVar 3) (dCons (dVar 5) dNil))) (dCons (dC (.int 1)) dNil))) (dCons (dVar 1) dNil)))))) (dRet (dC .non)) dNext)
  (dRet (dCall g_added (dCons (dTup (dCons (dVar 2) (dCons (dC (.int 1)) dNil))) (dCons (dCall g_ratio (dCons (dOp mulD (dOp subD (dVar 4) (dVar 2)) (dOp subD (dIx (dVar 1) (dC (.int 0))) (dOp mulD (dVar 3) (dIx (dVar 1) (dC (.int 1)))))) (dCons (dOp mulD (dOp subD (dVar 5) (dVar 3)) (dIx (dVar 1) (dC (.int 1)))) dNil))) dNil))))))
theorem l_at_height : ∀ ds R E M, g_at_height ds R E M → ds.length = 2 := by
  intro ds R E M h
  unfold g_at_height at h
  split at h
  · rfl
  · exact h.elim
theorem use_at {p q : Pt} {h : Rat} {R : PD} {E : Ex → MS → Prop} {M : MS} (hp : PtB p) (hq : PtB q) (hh : Sz 100 h) (k : R (eO (atH p q h)) M) : g_at_height [.tup [ePt p, ePt q], eF h] R E M := ⟨p, q, h, rfl, rfl, hp, hq, hh, k⟩
theorem sz_at {p q : Pt} {h : Rat} (hp : PtB p) (hq : PtB q) (hh : Sz 100 h) (hy : p.2 ≠ q.2) : Sz 300 (atX p q h) := by
  have a := hq.1.sub hp.1
  have b := hq.2.sub hp.2
  have c := (hh.num.mono (show 100 ≤ 120 by decide)).sub (hp.2.mul hh.den)
  have d := (sz_int' hp.1 (by decide)).add (sz_divInt ((a.mul c).mono (show _ ≤ 150 by decide)) ((b.mul hh.den).mono (show _ ≤ 150 by decide)) (Int.mul_ne_zero (by omega) (den_ne h)))
  exact d.mono (by decide)
theorem h_at_height : Hg g_at_height tb_at_height n_at_height := by
  intro ds R RE M h
  unfold g_at_height at h
  split at h
  · obtain ⟨p, q, h, rfl, rfl, hp, hq, hh, k⟩ := h
    unfold tb_at_height ePt
    walk_at "dn"
    by_cases e1 : p.2 = q.2
    · rw [show atH p q h = none from if_pos (.inl e1)] at k
      simp only [e1, decide_true, if_true, if_pos]
      exact Rw.of k
    · simp only [e1, if_false]
      try walk_at "dn"
      have hmn : Bd 20 (mnI p.2 q.2) := by unfold mnI; split; exact hq.2; exact hp.2
      have hmx : Bd 20 (mxI p.2 q.2) := by unfold mxI; split; exact hq.2; exact hp.2
      refine ⟨by decide, ?_⟩
      rw [eF_int]
      refine use_below 100 20 hh (sz_int' hmn (by decide)) (by decide) ?_
      by_cases e2 : h < ((mnI p.2 q.2 : Int) : Rat)
      · rw [decide_eq_true e2]
        rw [show atH p q h = none from if_pos (.inr (.inl e2))] at k
        try walk_at "dn"
        exact Rw.of k
      · rw [decide_eq_false e2]
        try walk_at "dn"
        try rw [if_neg (by decide)]
        refine ⟨by decide, ?_⟩
        rw [eF_int]
        refine use_below 20 100 (sz_int' hmx (by decide)) hh (by decide) ?_
        by_cases e3 : ((mxI p.2 q.2 : Int) : Rat) < h
        · rw [decide_eq_true e3]
          rw [show atH p q h = none from if_pos (.inr (.inr e3))] at k
          try walk_at "dn"
          exact Rw.of k
        · rw [decide_eq_false e3]
          rw [show atH p q h = some (atX p q h) from if_neg (by rintro (e | e | e); exact e1 e; exact e2 e; exact e3 e)] at k
          try walk_at "dn"
          try rw [if_neg (by decide)]
          simp only [qy0, qy1]
          try walk_at "dn"
          have a := hq.1.sub hp.1
          have b := hq.2.sub hp.2
          have c0 := hp.2.mul hh.den
          have c := (hh.num.mono (show 100 ≤ 120 by decide)).sub c0
          have n0 : (q.2 - p.2) * (h.den : Int) ≠ 0 := Int.mul_ne_zero (by omega) (den_ne h)
          refine ⟨by decide, hp.2.cmul hh.den (by decide) (by decide), a.cmul c (by decide) (by decide), b.cmul hh.den (by decide) (by decide), ?_⟩
          refine use_ratio n0 ((a.mul c).mono (by decide)) ((b.mul hh.den).mono (by decide)) ?_
          try walk_at "dn"
          rw [eF_int]
          exact useF2 20 150 (sz_int' hp.1 (by decide)) (sz_divInt ((a.mul c).mono (by decide)) ((b.mul hh.den).mono (by decide)) n0) (by decide) (Rw.of k)
  · exact h.elim
def sgnS (p q : Pt) : Int := (if p.2 < q.2 then 1 else 0) - (if p.2 > q.2 then 1 else 0)
def g_sign_of : G := fun ds R _ M => match ds with
  | [d] => ∃ p q, d = .tup [ePt p, ePt q] ∧ R (.int (sgnS p q)) M
  | _ => False
abbrev n_sign_of : List Str := ["side"]
def tb_sign_of : DTS :=
  (dRet (dOp subD (dCB intD (dCons (dOp ltD (dIx (dIx (dVar 0) (dC (.int 0))) (dC (.int 1))) (dIx (dIx (dVar 0) (dC (.int 1))) (dC (.int 1)))) dNil)) (dCB intD (dCons (dOp gtD (dIx (dIx (dVar 0) (dC (.int 0))) (dC (.int 1))) (dIx (dIx (dVar 0) (dC (.int 1))) (dC (.int 1)))) dNil))))
theorem l_sign_of : ∀ ds R E M, g_sign_of ds R E M → ds.length = 1 := by
  intro ds R E M h
  unfold g_sign_of at h
  split at h
  · rfl
  · exact h.elim
theorem use_sgn {p q : Pt} {R : PD} {E : Ex → MS → Prop} {M : MS} (k : R (.int (sgnS p q)) M) : g_sign_of [.tup [ePt p, ePt q]] R E M := ⟨p, q, rfl, k⟩
theorem h_sign_of : Hg g_sign_of tb_sign_of n_sign_of := by
  intro ds R RE M h
  unfold g_sign_of at h
  split at h
  · obtain ⟨p, q, rfl, k⟩ := h
    unfold tb_sign_of ePt
    walk_at "dn"
    refine Rw.of ?_
    unfold sgnS at k
    first
      | exact k
      | (simp only [decide_eq_true_eq]; exact k)
      | (simp only [decide_eq_true_eq] at k; exact k)
  · exact h.elim

def hAt (p q : Pt) (x : Rat) : Rat := (p.2 : Rat) + ((q.2 - p.2 : Int) : Rat) * ((x - (p.1 : Rat)) / ((q.1 - p.1 : Int) : Rat))
def hAtO (p q : Pt) (x : Rat) : Option Rat := if p.1 = q.1 then none else some (hAt p q x)
theorem sz_hat {p q : Pt} {x : Rat} (hp : PtB p) (hq : PtB q) (hx : Sz 100 x) (hy : p.1 ≠ q.1) : Sz 300 (hAt p q x) := by
  have s1 := sz_int' (hq.2.sub hp.2) (by decide)
  have s2 := sz_int' (hq.1.sub hp.1) (by decide)
  have n0 : ((q.1 - p.1 : Int) : Rat) ≠ 0 := fun e => by
    have := Rat.intCast_inj.mp (show ((q.1 - p.1 : Int) : Rat) = ((0 : Int) : Rat) from e)
    omega
  exact ((sz_int' hp.2 (by decide)).add (s1.mul ((hx.sub (sz_int' hp.1 (by decide))).div s2 n0))).mono (by decide)

/-! comprehensions with a condition, of mapped lists *)-/
theorem lc_filtG {α : Type} {p : Pat} {tt : DTT} {te : DTE} {vs : List Nat} {ρ : Sl} {R : List D → MS → Prop} {M : MS} (e g : α → D) (f : α → Bool) {ds : List α}
    (step : ∀ d, d ∈ ds → ∀ (Ky : D → MS → Prop) (Kn : MS → Prop), (if f d = true then Ky (g d) M else Kn M) → patW p (e d) (wipeD ρ vs) (fun ρ1 M1 => tt ρ1 (fun b M2 => if b = true then te ρ1 Ky noX M2 else Kn M2) noX M1) M)
    (hn : ds.length ≤ sizeLine) (fin : R ((ds.filter f).map g) M) : lcW p tt te vs ρ R (ds.map e) [] M := by
  refine lc_ind (fun its acc M' => M' = M ∧ ∃ pre suf, its = suf.map e ∧ ds = pre ++ suf ∧ acc = (pre.filter f).map g) ?_ ?_ ⟨rfl, [], ds, rfl, rfl, rfl⟩
  · rintro d its acc M' Kx ⟨rfl, pre, suf, e1, e2, rfl⟩ hk
    cases suf with
    | nil => cases e1
    | cons x suf =>
      cases e1
      refine step x (by rw [e2]; simp) (fun y M3 => ((pre.filter f).map g).length < sizeLine ∧ Kx ((pre.filter f).map g ++ [y]) M3) (fun M2 => Kx ((pre.filter f).map g) M2) ?_
      have hl : ((pre.filter f).map g).length < sizeLine := by
        have h1 := List.length_filter_le f pre
        rw [e2, List.length_append, List.length_cons] at hn
        rw [List.length_map]
        omega
      by_cases c : f x = true
      · rw [if_pos c]
        refine ⟨hl, hk _ _ ⟨rfl, pre ++ [x], suf, rfl, by rw [e2, List.append_assoc]; rfl, ?_⟩⟩
        rw [List.filter_append, List.filter_cons_of_pos c, List.filter_nil, List.map_append]
        rfl
      · rw [if_neg c]
        refine hk _ _ ⟨rfl, pre ++ [x], suf, rfl, by rw [e2, List.append_assoc]; rfl, ?_⟩
        rw [List.filter_append, List.filter_cons_of_neg c, List.filter_nil, List.append_nil]
  · rintro acc M' ⟨rfl, pre, suf, e1, e2, rfl⟩
    have es : suf = [] := by cases suf <;> first | rfl | cases e1
    subst es
    rw [List.append_nil] at e2
    rw [← e2]
    exact fin

/-! loops by an index *)-/
theorem for_rngI {p : Pat} {t : DTS} {De : DEnds} {n : Nat} (I : Nat → Sl → MS → Prop)
    (step : ∀ j, j < n → ∀ ρ M (Kx : Sl → MS → Prop), I j ρ M → (∀ ρ' M', I (j + 1) ρ' M' → Kx ρ' M') → patW p (.int (j : Int)) ρ (fun ρ1 M1 => t { De with nx := Kx, ct := Kx, bk := De.nx } ρ1 M1) M)
    (fin : ∀ ρ M, I n ρ M → De.nx ρ M) {ρ : Sl} {M : MS} (h : I 0 ρ M) : forW p t De (rng 0 n) ρ M := by
  refine for_ind (fun its ρ M => ∃ j m : Nat, its = rng (j : Nat) m ∧ j + m = n ∧ I j ρ M) ?_ ?_ ⟨0, n, rfl, Nat.zero_add _, h⟩
  · rintro d its ρ M Kx ⟨j, m, e1, e2, hI⟩ hk
    cases m with
    | zero => cases e1
    | succ m =>
      rw [rng_c] at e1
      cases e1
      exact step j (by omega) ρ M Kx hI fun ρ' M' h' => hk ρ' M' ⟨j + 1, m, rfl, by omega, h'⟩
  · rintro ρ M ⟨j, m, e1, e2, hI⟩
    cases m with
    | zero => exact fin ρ M (by rw [show n = j by omega]; exact hI)
    | succ m => rw [rng_c] at e1; cases e1
theorem for_enuI {α : Type} (e : α → D) (ps : List α) {p : Pat} {t : DTS} {De : DEnds} (I : Nat → Sl → MS → Prop)
    (step : ∀ j x, ps[j]? = some x → ∀ ρ M (Kx : Sl → MS → Prop), I j ρ M → (∀ ρ' M', I (j + 1) ρ' M' → Kx ρ' M') → patW p (.tup [.int (j : Int), e x]) ρ (fun ρ1 M1 => t { De with nx := Kx, ct := Kx, bk := De.nx } ρ1 M1) M)
    (fin : ∀ ρ M, I ps.length ρ M → De.nx ρ M) {ρ : Sl} {M : MS} (h : I 0 ρ M) : forW p t De (enuD (ps.map e)) ρ M := by
  rw [enuD_map]
  refine for_ind (fun its ρ M => ∃ j : Nat, its = (ps.mapIdx fun (i : Nat) p => D.tup [.int i, e p]).drop j ∧ j ≤ ps.length ∧ I j ρ M) ?_ ?_ ⟨0, rfl, Nat.zero_le _, h⟩
  · rintro d its ρ M Kx ⟨j, e1, e2, hI⟩ hk
    have hj : j < ps.length := by
      have := congrArg List.length e1
      rw [List.length_cons, List.length_drop, List.length_mapIdx] at this
      omega
    have hj2 : j < (ps.mapIdx fun (i : Nat) p => D.tup [.int i, e p]).length := by rw [List.length_mapIdx]; exact hj
    rw [List.drop_eq_getElem_cons hj2] at e1
    injection e1 with e3 e4
    rw [List.getElem_mapIdx] at e3
    subst e3
    exact step j ps[j] (List.getElem?_eq_getElem hj) ρ M Kx hI fun ρ' M' h' => hk ρ' M' ⟨j + 1, e4, hj, h'⟩
  · rintro ρ M ⟨j, e1, e2, hI⟩
    have : j = ps.length := by
      have := congrArg List.length e1
      rw [List.length_nil, List.length_drop, List.length_mapIdx] at this
      omega
    exact fin ρ M (by rw [← this]; exact hI)

/-! heights at which a cell is cut -/
abbrev Sd := (Pt × Pt) × Int
def eSd (s : Sd) : D := .tup [eSide s.1, .int s.2]
def slopW (P : List (List Pt)) : List Sd := ((sidesP P).filter fun s => decide (sgnS s.1 s.2 ≠ 0)).map fun s => (s, sgnS s.1 s.2)
def mnY (s : Pt × Pt) : Int := mnI s.1.2 s.2.2
def mxY (s : Pt × Pt) : Int := mxI s.1.2 s.2.2
theorem mnY_b {s : Pt × Pt} (h1 : PtB s.1) (h2 : PtB s.2) : Bd 20 (mnY s) ∧ Bd 20 (mxY s) := by
  unfold mnY mxY mnI mxI
  constructor <;> split <;> first | exact h1.2 | exact h2.2
def g_whole : G := fun ds R E M => ∃ (i : Int), ds = [.int i] ∧ (R (eF (i : Rat)) M)
abbrev n_whole : List Str := ["number"]
def tb_whole : DTS :=
  (dRet (dTup (dCons (dVar 0) (dCons (dC (.int 1)) dNil))))
theorem l_whole : ∀ ds R E M, g_whole ds R E M → ds.length = 1 := by
  rintro ds R E M ⟨_, rfl, -⟩; rfl
theorem u_whole {i : Int} {R : PD} {E : Ex → MS → Prop} {M : MS}  (k : R (eF (i : Rat)) M) : g_whole [.int i] R E M := ⟨_, rfl, k⟩
theorem h_whole : Hg g_whole tb_whole n_whole := by
  rintro ds R E M ⟨i, rfl, k⟩
  unfold tb_whole
  walk_at "dn"
  exact ⟨by decide, Rw.of k⟩
def g_sloped : G := fun ds R E M => ∃ (P : List (List Pt)), ds = [ePath P] ∧ (PathB P) ∧ (R (.lst ((slopW P).map eSd)) M)
abbrev n_sloped : List Str := ["path", "side"]
def tb_sloped : DTS :=
  (dRet (dLc (dItems (dCall g_sides_of (dCons (dVar 0) dNil))) (.nm 1) (dTst (dOp (eqD fun k => !k) (dCall g_sign_of (dCons (dVar 1) dNil)) (dC (.int 0)))) (dTup (dCons (dVar 1) (dCons (dCall g_sign_of (dCons (dVar 1) dNil)) dNil))) [1]))
theorem l_sloped : ∀ ds R E M, g_sloped ds R E M → ds.length = 1 := by
  rintro ds R E M ⟨_, rfl, -⟩; rfl
theorem u_sloped {P : List (List Pt)} {R : PD} {E : Ex → MS → Prop} {M : MS} (hP : PathB P) (k : R (.lst ((slopW P).map eSd)) M) : g_sloped [ePath P] R E M := ⟨_, rfl, hP, k⟩
theorem h_sloped : Hg g_sloped tb_sloped n_sloped := by
  rintro ds R E M ⟨P, rfl, hP, k⟩
  unfold tb_sloped
  walk_at "dn"
  refine use_sides hP ?_
  try walk_at "dn"
  refine lc_filtG eSide (fun s => eSd (s, sgnS s.1 s.2)) (fun s => decide (sgnS s.1 s.2 ≠ 0)) (fun s hs Ky Kn hst => ?_) (slz (by have := hP.1; rw [sidesP_len]; omega)) ?_
  · unfold eSide
    walk_at "dn"
    refine use_sgn ?_
    try walk_at "dn"
    by_cases c : sgnS s.1 s.2 = 0
    · rw [decide_eq_false (fun z => z c), if_neg (by decide)] at hst
      rw [if_neg (fun z => z c)]
      exact hst
    · rw [decide_eq_true c, if_pos rfl] at hst
      rw [if_pos c]
      refine use_sgn ?_
      try walk_at "dn"
      exact ⟨by decide, hst⟩
  · try walk_at "dn"
    refine Rw.of ?_
    unfold slopW at k
    rw [List.map_map] at k
    exact k
def g_ends_of : G := fun ds R E M => ∃ (s : Pt × Pt), ds = [eSide s] ∧ (R (.tup [.int (mnY s), .int (mxY s)]) M)
abbrev n_ends_of : List Str := ["side"]
def tb_ends_of : DTS :=
  (dRet (dTup (dCons (dCB minD (dCons (dIx (dIx (dVar 0) (dC (.int 0))) (dC (.int 1))) (dCons (dIx (dIx (dVar 0) (dC (.int 1))) (dC (.int 1))) dNil))) (dCons (dCB maxD (dCons (dIx (dIx (dVar 0) (dC (.int 0))) (dC (.int 1))) (dCons (dIx (dIx (dVar 0) (dC (.int 1))) (dC (.int 1))) dNil))) dNil))))
theorem l_ends_of : ∀ ds R E M, g_ends_of ds R E M → ds.length = 1 := by
  rintro ds R E M ⟨_, rfl, -⟩; rfl
theorem u_ends_of {s : Pt × Pt} {R : PD} {E : Ex → MS → Prop} {M : MS}  (k : R (.tup [.int (mnY s), .int (mxY s)]) M) : g_ends_of [eSide s] R E M := ⟨_, rfl, k⟩
theorem h_ends_of : Hg g_ends_of tb_ends_of n_ends_of := by
  rintro ds R E M ⟨s, rfl, k⟩
  unfold tb_ends_of
  unfold eSide ePt
  walk_at "dn"
  exact ⟨by decide, Rw.of k⟩
def thruW (s : Pt × Pt) (l h : Rat) : Prop := ((mnY s : Int) : Rat) ≤ l ∧ h ≤ ((mxY s : Int) : Rat)
instance {s : Pt × Pt} {l h : Rat} : Decidable (thruW s l h) := instDecidableAnd
theorem le_num {i : Int} {q : Rat} : i * (q.den : Int) ≤ q.num ↔ (i : Rat) ≤ q := by
  rw [Rat.le_iff]
  show _ ↔ i * (q.den : Int) ≤ q.num * ((1 : Nat) : Int)
  rw [show ((1 : Nat) : Int) = 1 from rfl, Int.mul_one]
theorem num_le {i : Int} {q : Rat} : q.num ≤ i * (q.den : Int) ↔ q ≤ (i : Rat) := by
  rw [Rat.le_iff]
  show _ ↔ q.num * ((1 : Nat) : Int) ≤ i * (q.den : Int)
  rw [show ((1 : Nat) : Int) = 1 from rfl, Int.mul_one]
def g_goes_through : G := fun ds R E M => ∃ (s : Pt × Pt) (l h : Rat), ds = [eSide s, eF l, eF h] ∧ (PtB s.1) ∧ (PtB s.2) ∧ (Sz 200 l) ∧ (Sz 200 h) ∧ (R (.bl (decide (thruW s l h))) M)
abbrev n_goes_through : List Str := ["side", "low", "high", "ends"]
def tb_goes_through : DTS :=
  (dSeq (dSet 3 (dCall g_ends_of (dCons (dVar 0) dNil)))
  (dRet (dAndV (dOp leD (dOp mulD (dIx (dVar 3) (dC (.int 0))) (dIx (dVar 1) (dC (.int 1)))) (dIx (dVar 1) (dC (.int 0)))) (dOp geD (dOp mulD (dIx (dVar 3) (dC (.int 1))) (dIx (dVar 2) (dC (.int 1)))) (dIx (dVar 2) (dC (.int 0)))))))
theorem l_goes_through : ∀ ds R E M, g_goes_through ds R E M → ds.length = 3 := by
  rintro ds R E M ⟨_, _, _, rfl, -⟩; rfl
theorem u_goes_through {s : Pt × Pt} {l h : Rat} {R : PD} {E : Ex → MS → Prop} {M : MS} (h1 : PtB s.1) (h2 : PtB s.2) (hl : Sz 200 l) (hh : Sz 200 h) (k : R (.bl (decide (thruW s l h))) M) : g_goes_through [eSide s, eF l, eF h] R E M := ⟨_, _, _, rfl, h1, h2, hl, hh, k⟩
theorem h_goes_through : Hg g_goes_through tb_goes_through n_goes_through := by
  rintro ds R E M ⟨s, l, h, rfl, h1, h2, hl, hh, k⟩
  unfold tb_goes_through
  obtain ⟨b1, b2⟩ := mnY_b h1 h2
  walk_at "dn"
  refine u_ends_of ?_
  try walk_at "dn"
  simp only [qy0, qy1]
  try walk_at "dn"
  refine ⟨b1.cmul hl.den (by decide) (by decide), ?_⟩
  by_cases c : mnY s * (l.den : Int) ≤ l.num
  · rw [if_pos c]
    refine ⟨b2.cmul hh.den (by decide) (by decide), ?_⟩
    refine Rw.of ?_
    rw [show decide (h.num ≤ mxY s * (h.den : Int)) = decide (thruW s l h) from decide_eq_decide.mpr ⟨fun z => ⟨le_num.mp c, num_le.mp z⟩, fun z => num_le.mpr z.2⟩]
    exact k
  · rw [if_neg c]
    refine Rw.of ?_
    rw [show decide (mnY s * (l.den : Int) ≤ l.num) = decide (thruW s l h) from decide_eq_decide.mpr ⟨fun z => absurd z c, fun z => absurd (le_num.mpr z.1) c⟩]
    exact k
def meetW (s : Pt × Pt) (x : Int) : Option Rat := if s.1.1 = s.2.1 then none else if mnI s.1.1 s.2.1 ≤ x ∧ x ≤ mxI s.1.1 s.2.1 then some (Rat.divInt ((x - s.1.1) * (s.2.2 - s.1.2) + s.1.2 * (s.2.1 - s.1.1)) (s.2.1 - s.1.1)) else none
def g_meeting : G := fun ds R E M => ∃ (s : Pt × Pt) (x : Int), ds = [eSide s, .int x] ∧ (PtB s.1) ∧ (PtB s.2) ∧ (Bd 20 x) ∧ (R (eO (meetW s x)) M)
abbrev n_meeting : List Str := ["side", "x", "ax", "ay", "bx", "by"]
def tb_meeting : DTS :=
  (dSeq (dAsg (.tp [(.tp [(.nm 2), (.nm 3)]), (.tp [(.nm 4), (.nm 5)])]) (dVar 0))
  (dSeq (dIfS (dOr (dTst (dOp (eqD id) (dVar 2) (dVar 4))) (dNot (dTst (dChain leD leD (dCB minD (dCons (dVar 2) (dCons (dVar 4) dNil))) (dVar 1) (dCB maxD (dCons (dVar 2) (dCons (dVar 4) dNil))))))) (dRet (dC .non)) dNext)
  (dRet (dCall g_ratio (dCons (dOp addD (dOp mulD (dOp subD (dVar 1) (dVar 2)) (dOp subD (dVar 5) (dVar 3))) (dOp mulD (dVar 3) (dOp subD (dVar 4) (dVar 2)))) (dCons (dOp subD (dVar 4) (dVar 2)) dNil))))))
theorem l_meeting : ∀ ds R E M, g_meeting ds R E M → ds.length = 2 := by
  rintro ds R E M ⟨_, _, rfl, -⟩; rfl
theorem u_meeting {s : Pt × Pt} {x : Int} {R : PD} {E : Ex → MS → Prop} {M : MS} (h1 : PtB s.1) (h2 : PtB s.2) (hx : Bd 20 x) (k : R (eO (meetW s x)) M) : g_meeting [eSide s, .int x] R E M := ⟨_, _, rfl, h1, h2, hx, k⟩
theorem h_meeting : Hg g_meeting tb_meeting n_meeting := by
  rintro ds R E M ⟨s, x, rfl, h1, h2, hx, k⟩
  unfold tb_meeting
  unfold meetW at k
  unfold eSide ePt
  walk_at "dn"
  by_cases c : s.1.1 = s.2.1
  · rw [if_pos c] at k ⊢
    exact Rw.of k
  · rw [if_neg c] at k ⊢
    by_cases d : mnI s.1.1 s.2.1 ≤ x
    · rw [if_pos d]
      by_cases e : x ≤ mxI s.1.1 s.2.1
      · rw [if_neg (fun z => z e)]
        rw [if_pos ⟨d, e⟩] at k
        have x1 := h2.1.sub h1.1
        have x2 := h2.2.sub h1.2
        have x3 := hx.sub h1.1
        refine ⟨x3.cmul x2 (by decide) (by decide), h1.2.cmul x1 (by decide) (by decide), ?_⟩
        refine use_ratio (by omega) ((((x3.mul x2).mono (show _ ≤ 42 by decide)).add ((h1.2.mul x1).mono (show _ ≤ 42 by decide))).mono (by decide)) (x1.mono (by decide)) (Rw.of k)
      · rw [if_pos e]
        rw [if_neg (fun z => e z.2)] at k
        exact Rw.of k
    · rw [if_neg d]
      rw [if_neg (fun z => d z.1)] at k
      exact Rw.of k
theorem meet_sz {s : Pt × Pt} {x : Int} {q : Rat} (h1 : PtB s.1) (h2 : PtB s.2) (hx : Bd 20 x) (h : meetW s x = some q) : Sz 100 q := by
  unfold meetW at h
  split at h
  · cases h
  · rename_i c
    split at h
    · cases h
      have x1 := h2.1.sub h1.1
      have x2 := h2.2.sub h1.2
      have x3 := hx.sub h1.1
      exact (sz_divInt ((((x3.mul x2).mono (show _ ≤ 42 by decide)).add ((h1.2.mul x1).mono (show _ ≤ 42 by decide))).mono (show _ ≤ 100 by decide)) (x1.mono (by decide)) (by omega))
    · cases h
def downW (a b : Pt × Pt) : Int := (a.2.1 - a.1.1) * (b.2.2 - b.1.2) - (b.2.1 - b.1.1) * (a.2.2 - a.1.2)
def upW (a b : Pt × Pt) : Int := (b.1.1 - a.1.1) * (a.2.2 - a.1.2) * (b.2.2 - b.1.2) + a.1.2 * (a.2.1 - a.1.1) * (b.2.2 - b.1.2) - b.1.2 * (b.2.1 - b.1.1) * (a.2.2 - a.1.2)
def crossW (a b : Pt × Pt) : Option Rat := if downW a b = 0 then none else if thruW a (Rat.divInt (upW a b) (downW a b)) (Rat.divInt (upW a b) (downW a b)) ∧ thruW b (Rat.divInt (upW a b) (downW a b)) (Rat.divInt (upW a b) (downW a b)) then some (Rat.divInt (upW a b) (downW a b)) else none
theorem cross_sz {a b : Pt × Pt} (a1 : PtB a.1) (a2 : PtB a.2) (b1 : PtB b.1) (b2 : PtB b.2) : Bd 70 (upW a b) ∧ Bd 70 (downW a b) := by
  have x1 := a2.1.sub a1.1
  have x2 := a2.2.sub a1.2
  have y1 := b2.1.sub b1.1
  have y2 := b2.2.sub b1.2
  exact ⟨((((((b1.1.sub a1.1).mul x2).mul y2).mono (show _ ≤ 63 by decide)).add (((a1.2.mul x1).mul y2).mono (show _ ≤ 63 by decide))).sub (((b1.2.mul y1).mul x2).mono (show _ ≤ 64 by decide))).mono (by decide), ((x1.mul y2).sub (y1.mul x2)).mono (by decide)⟩
def g_crossing_height : G := fun ds R E M => ∃ (a b : Pt × Pt), ds = [eSide a, eSide b] ∧ (PtB a.1) ∧ (PtB a.2) ∧ (PtB b.1) ∧ (PtB b.2) ∧ (R (eO (crossW a b)) M)
abbrev n_crossing_height : List Str := ["one", "other", "down", "up", "height", "ax", "ay", "bx", "by", "cx", "cy", "dx", "dy"]
def tb_crossing_height : DTS :=
  (dSeq (dAsg (.tp [(.tp [(.nm 5), (.nm 6)]), (.tp [(.nm 7), (.nm 8)])]) (dVar 0))
  (dSeq (dAsg (.tp [(.tp [(.nm 9), (.nm 10)]), (.tp [(.nm 11), (.nm 12)])]) (dVar 1))
  (dSeq (dSet 2 (dOp subD (dOp mulD (dOp subD (dVar 7) (dVar 5)) (dOp subD (dVar 12) (dVar 10))) (dOp mulD (dOp subD (dVar 11) (dVar 9)) (dOp subD (dVar 8) (dVar 6)))))
  (dSeq (dIfS (dTst (dOp (eqD id) (dVar 2) (dC (.int 0)))) (dRet (dC .non)) dNext)
  (dSeq (dSet 3 (dOp subD (dOp addD (dOp mulD (dOp mulD (dOp subD (dVar 9) (dVar 5)) (dOp subD (dVar 8) (dVar 6))) (dOp subD (dVar 12) (dVar 10))) (dOp mulD (dOp mulD (dVar 6) (dOp subD (dVar 7) (dVar 5))) (dOp subD (dVar 12) (dVar 10)))) (dOp mulD (dOp mulD (dVar 10) (dOp subD (dVar 11) (dVar 9))) (dOp subD (dVar 8) (dVar 6)))))
  (dSeq (dSet 4 (dCall g_ratio (dCons (dVar 3) (dCons (dVar 2) dNil))))
  (dRet (dIf (dAnd (dTru (dCall g_goes_through (dCons (dVar 0) (dCons (dVar 4) (dCons (dVar 4) dNil))))) (dTru (dCall g_goes_through (dCons (dVar 1) (dCons (dVar 4) (dCons (dVar 4) dNil)))))) (dVar 4) (dC .non)))))))))
theorem l_crossing_height : ∀ ds R E M, g_crossing_height ds R E M → ds.length = 2 := by
  rintro ds R E M ⟨_, _, rfl, -⟩; rfl
theorem u_crossing_height {a b : Pt × Pt} {R : PD} {E : Ex → MS → Prop} {M : MS} (a1 : PtB a.1) (a2 : PtB a.2) (b1 : PtB b.1) (b2 : PtB b.2) (k : R (eO (crossW a b)) M) : g_crossing_height [eSide a, eSide b] R E M := ⟨_, _, rfl, a1, a2, b1, b2, k⟩
theorem h_crossing_height : Hg g_crossing_height tb_crossing_height n_crossing_height := by
  rintro ds R E M ⟨a, b, rfl, a1, a2, b1, b2, k⟩
  unfold tb_crossing_height
  unfold crossW at k
  obtain ⟨z1, z2⟩ := cross_sz a1 a2 b1 b2
  have x1 := a2.1.sub a1.1
  have x2 := a2.2.sub a1.2
  have y1 := b2.1.sub b1.1
  have y2 := b2.2.sub b1.2
  have w1 := b1.1.sub a1.1
  have hab : g_crossing_height [eSide a, eSide b] R E M → True := fun _ => trivial
  unfold eSide ePt
  walk_at "dn"
  refine ⟨x1.cmul y2 (by decide) (by decide), y1.cmul x2 (by decide) (by decide), ?_⟩
  by_cases c : downW a b = 0
  · rw [if_pos c] at k
    rw [if_pos (show (a.2.1 - a.1.1) * (b.2.2 - b.1.2) - (b.2.1 - b.1.1) * (a.2.2 - a.1.2) = 0 from c)]
    exact Rw.of k
  · rw [if_neg c] at k
    rw [if_neg (show ¬ (a.2.1 - a.1.1) * (b.2.2 - b.1.2) - (b.2.1 - b.1.1) * (a.2.2 - a.1.2) = 0 from c)]
    refine ⟨w1.cmul x2 (by decide) (by decide), (w1.mul x2).cmul y2 (by decide) (by decide), a1.2.cmul x1 (by decide) (by decide), (a1.2.mul x1).cmul y2 (by decide) (by decide), b1.2.cmul y1 (by decide) (by decide), (b1.2.mul y1).cmul x2 (by decide) (by decide), ?_⟩
    have sz : Sz 100 (Rat.divInt (upW a b) (downW a b)) := sz_divInt (z1.mono (by decide)) (z2.mono (by decide)) c
    refine use_ratio (show downW a b ≠ 0 from c) (show Bd 8000 (upW a b) from z1.mono (by decide)) (show Bd 8000 (downW a b) from z2.mono (by decide)) ?_
    try walk_at "dn"
    show g_goes_through [eSide a, eF (Rat.divInt (upW a b) (downW a b)), eF (Rat.divInt (upW a b) (downW a b))] _ _ _
    refine u_goes_through a1 a2 (sz.mono (by decide)) (sz.mono (by decide)) ?_
    by_cases d : thruW a (Rat.divInt (upW a b) (downW a b)) (Rat.divInt (upW a b) (downW a b))
    · rw [decide_eq_true d]
      try walk_at "dn"
      show g_goes_through [eSide b, eF (Rat.divInt (upW a b) (downW a b)), eF (Rat.divInt (upW a b) (downW a b))] _ _ _
      refine u_goes_through b1 b2 (sz.mono (by decide)) (sz.mono (by decide)) ?_
      by_cases e : thruW b (Rat.divInt (upW a b) (downW a b)) (Rat.divInt (upW a b) (downW a b))
      · rw [decide_eq_true e]
        rw [if_pos ⟨d, e⟩] at k
        try walk_at "dn"
        exact Rw.of k
      · rw [decide_eq_false e]
        rw [if_neg (fun z => e z.2)] at k
        try walk_at "dn"
        exact Rw.of k
    · rw [decide_eq_false d]
      rw [if_neg (fun z => d z.1)] at k
      try walk_at "dn"
      try rw [if_neg (by decide)]
      exact Rw.of k
theorem crossW_sz {a b : Pt × Pt} {q : Rat} (a1 : PtB a.1) (a2 : PtB a.2) (b1 : PtB b.1) (b2 : PtB b.2) (h : crossW a b = some q) : Sz 100 q ∧ thruW a q q ∧ thruW b q q := by
  obtain ⟨z1, z2⟩ := cross_sz a1 a2 b1 b2
  unfold crossW at h
  split at h
  · cases h
  · rename_i c
    split at h
    · rename_i d
      cases h
      exact ⟨sz_divInt (z1.mono (by decide)) (z2.mono (by decide)) c, d.1, d.2⟩
    · cases h
def atW (s : Pt × Pt) (h : Rat) : Rat := atX s.1 s.2 h
theorem thru_at {s : Pt × Pt} {h : Rat} (hn : s.1.2 ≠ s.2.2) (ht : thruW s h h) : atH s.1 s.2 h = some (atW s h) := by
  refine if_neg ?_
  rintro (e | e | e)
  · exact hn e
  · have : ((mnY s : Int) : Rat) ≤ h := ht.1
    unfold mnY at this
    grind
  · have : h ≤ ((mxY s : Int) : Rat) := ht.2
    unfold mxY at this
    grind
def g_is_across : G := fun ds R E M => ∃ (s : Pt × Pt) (h : Rat) (l r : Int), ds = [eSide s, eF h, .tup [.int l, .int r]] ∧ (PtB s.1) ∧ (PtB s.2) ∧ (s.1.2 ≠ s.2.2) ∧ (Sz 100 h) ∧ (thruW s h h) ∧ (Bd 20 l) ∧ (Bd 20 r) ∧ (R (.bl (decide ((l : Rat) ≤ atW s h ∧ atW s h ≤ (r : Rat)))) M)
abbrev n_is_across : List Str := ["side", "height", "edges", "x"]
def tb_is_across : DTS :=
  (dSeq (dSet 3 (dCall g_at_height (dCons (dVar 0) (dCons (dVar 1) dNil))))
  (dRet (dChain leD leD (dOp mulD (dIx (dVar 2) (dC (.int 0))) (dIx (dVar 3) (dC (.int 1)))) (dIx (dVar 3) (dC (.int 0))) (dOp mulD (dIx (dVar 2) (dC (.int 1))) (dIx (dVar 3) (dC (.int 1)))))))
theorem l_is_across : ∀ ds R E M, g_is_across ds R E M → ds.length = 3 := by
  rintro ds R E M ⟨_, _, _, _, rfl, -⟩; rfl
theorem u_is_across {s : Pt × Pt} {h : Rat} {l r : Int} {R : PD} {E : Ex → MS → Prop} {M : MS} (h1 : PtB s.1) (h2 : PtB s.2) (hn : s.1.2 ≠ s.2.2) (hh : Sz 100 h) (ht : thruW s h h) (bl : Bd 20 l) (br : Bd 20 r) (k : R (.bl (decide ((l : Rat) ≤ atW s h ∧ atW s h ≤ (r : Rat)))) M) : g_is_across [eSide s, eF h, .tup [.int l, .int r]] R E M := ⟨_, _, _, _, rfl, h1, h2, hn, hh, ht, bl, br, k⟩
theorem h_is_across : Hg g_is_across tb_is_across n_is_across := by
  rintro ds R E M ⟨s, h, l, r, rfl, h1, h2, hn, hh, ht, bl, br, k⟩
  unfold tb_is_across
  have sx := sz_at h1 h2 hh hn
  unfold eSide
  walk_at "dn"
  refine use_at h1 h2 hh ?_
  rw [thru_at hn ht]
  unfold eO
  try walk_at "dn"
  try simp only [qy0, qy1]
  try walk_at "dn"
  refine ⟨bl.cmul sx.den (by decide) (by decide), ?_⟩
  by_cases c : l * ((atW s h).den : Int) ≤ (atW s h).num
  · rw [if_pos c]
    refine ⟨br.cmul sx.den (by decide) (by decide), ?_⟩
    refine Rw.of ?_
    rw [show decide ((atW s h).num ≤ r * ((atW s h).den : Int)) = decide ((l : Rat) ≤ atW s h ∧ atW s h ≤ (r : Rat)) from decide_eq_decide.mpr ⟨fun z => ⟨le_num.mp c, num_le.mp z⟩, fun z => num_le.mpr z.2⟩]
    exact k
  · rw [if_neg c]
    refine Rw.of ?_
    rw [show false = decide ((l : Rat) ≤ atW s h ∧ atW s h ≤ (r : Rat)) from (decide_eq_false fun z => c (le_num.mpr z.1)).symm]
    exact k

/-! fractions by their greatness, each once *)-/
def insR (x : Rat) : List Rat → List Rat
  | [] => [x]
  | y :: ys => if x < y then x :: y :: ys else if x = y then y :: ys else y :: insR x ys
def risW (l : List Rat) : List Rat := l.foldr insR []
abbrev Ris (l : List Rat) : Prop := l.Pairwise (· < ·)
theorem insR_mem {x z : Rat} : ∀ {l : List Rat}, z ∈ insR x l ↔ z = x ∨ z ∈ l
  | [] => by simp [insR]
  | y :: ys => by
    unfold insR
    split
    · simp
    · split
      · rename_i e; subst e; simp
      · rw [List.mem_cons, insR_mem, List.mem_cons]; grind
theorem insR_ris {x : Rat} : ∀ {l : List Rat}, Ris l → Ris (insR x l)
  | [], _ => by simp [insR]
  | y :: ys, h => by
    obtain ⟨h1, h2⟩ := List.pairwise_cons.mp h
    unfold insR
    split
    · rename_i c
      exact List.pairwise_cons.mpr ⟨fun z hz => by
        rcases List.mem_cons.mp hz with rfl | hz
        · exact c
        · have := h1 z hz; grind, h⟩
    · split
      · exact h
      · rename_i c d
        refine List.pairwise_cons.mpr ⟨fun z hz => ?_, insR_ris h2⟩
        rcases insR_mem.mp hz with rfl | hz
        · grind
        · exact h1 z hz
theorem risW_ris (l : List Rat) : Ris (risW l) := by
  unfold risW
  induction l with
  | nil => exact .nil
  | cons x l ih => exact insR_ris ih
theorem risW_mem {l : List Rat} {z : Rat} : z ∈ risW l ↔ z ∈ l := by
  unfold risW
  induction l with
  | nil => simp
  | cons x l ih => rw [List.foldr_cons, insR_mem, ih, List.mem_cons]
theorem ris_one : ∀ {l m : List Rat}, Ris l → Ris m → (∀ x, x ∈ l ↔ x ∈ m) → l = m
  | [], [], _, _, _ => rfl
  | [], b :: m, _, _, h => absurd ((h b).mpr (.head _)) (List.not_mem_nil)
  | a :: l, [], _, _, h => absurd ((h a).mp (.head _)) (List.not_mem_nil)
  | a :: l, b :: m, h1, h2, h => by
    have c1 := List.pairwise_cons.mp h1
    have c2 := List.pairwise_cons.mp h2
    have e : a = b := by
      rcases List.mem_cons.mp ((h a).mp (.head _)) with e | e
      · exact e
      · rcases List.mem_cons.mp ((h b).mpr (.head _)) with e' | e'
        · exact e'.symm
        · have := c1.1 b e'
          have := c2.1 a e
          grind
    subst e
    rw [ris_one c1.2 c2.2 fun x => ⟨fun hx => ?_, fun hx => ?_⟩]
    · rcases List.mem_cons.mp ((h x).mp (.tail _ hx)) with e | e
      · have := c1.1 x hx
        grind
      · exact e
    · rcases List.mem_cons.mp ((h x).mpr (.tail _ hx)) with e | e
      · have := c2.1 x hx
        grind
      · exact e
theorem risW_len : ∀ (l : List Rat), (risW l).length ≤ l.length
  | [] => Nat.le_refl _
  | x :: l => by
    have h : ∀ m : List Rat, (insR x m).length ≤ m.length + 1 := fun m => by
      induction m with
      | nil => exact Nat.le_refl _
      | cons y ys ih =>
        unfold insR
        split
        · simp
        · split
          · simp
          · simp only [List.length_cons]; omega
    have := h (risW l)
    have := risW_len l
    show (insR x (risW l)).length ≤ _
    simp only [List.length_cons]
    omega
/-! the program's way: a dict of them, sorted by whole numbers *)-/
def kQ (q : Rat) : PySem.NestedKey := .tup [.num q.num, .num q.den]
theorem kD_kQ (q : Rat) : kD (kQ q) = eF q := by
  unfold kQ eF
  simp only [kD, kDs]
theorem kQ_ok (q : Rat) : NkOk (kQ q) := ⟨⟨_, rfl⟩, by simp [kQ, nkN, nkNs], by simp [kQ, PySem.NestedKey.depth, PySem.NestedKey.depthAll]⟩
theorem kQ_inj {p q : Rat} (h : kQ p = kQ q) : p = q := by
  have := congrArg kD h
  rw [kD_kQ, kD_kQ] at this
  exact eF_inj this
theorem mergeM_keys {κ : Type} [DecidableEq κ] : ∀ (rs acc : List (κ × D)), (acc.map (·.1)).Nodup → ((mergeM acc rs).map (·.1)).Nodup ∧ ∀ k, k ∈ (mergeM acc rs).map (·.1) ↔ k ∈ acc.map (·.1) ∨ k ∈ rs.map (·.1)
  | [], acc, h => ⟨h, fun k => by simp [mergeM]⟩
  | r :: rs, acc, h => by
    have e : (putM acc r.1 r.2).map (·.1) = if r.1 ∈ acc.map (·.1) then acc.map (·.1) else acc.map (·.1) ++ [r.1] := by
      unfold putM
      by_cases c : r.1 ∈ acc.map (·.1)
      · rw [if_pos c, if_pos (by
          obtain ⟨kv, h1, h2⟩ := List.mem_map.mp c
          exact List.any_eq_true.mpr ⟨kv, h1, decide_eq_true h2⟩), List.map_map]
        refine List.map_congr_left fun kv _ => ?_
        show (if kv.1 = r.1 then (kv.1, r.2) else kv).1 = kv.1
        split <;> rfl
      · rw [if_neg c, if_neg (fun z => by
          obtain ⟨kv, h1, h2⟩ := List.any_eq_true.mp z
          exact c (List.mem_map.mpr ⟨kv, h1, of_decide_eq_true h2⟩)), List.map_append]
        rfl
    have hn : ((putM acc r.1 r.2).map (·.1)).Nodup := by
      rw [e]
      split
      · exact h
      · rename_i c
        rw [List.nodup_append]
        exact ⟨h, by simp, fun a ha b hb z => c (by rw [← List.mem_singleton.mp hb, ← z]; exact ha)⟩
    obtain ⟨i1, i2⟩ := mergeM_keys rs (putM acc r.1 r.2) hn
    refine ⟨i1, fun k => (i2 k).trans ?_⟩
    rw [e, List.map_cons, List.mem_cons]
    split
    · rename_i c
      constructor
      · rintro (a | a)
        · exact .inl a
        · exact .inr (.inr a)
      · rintro (a | a | a)
        · exact .inl a
        · exact .inl (by rw [a]; exact c)
        · exact .inr a
    · rw [List.mem_append, List.mem_singleton]
      constructor
      · rintro ((a | a) | a)
        · exact .inl a
        · exact .inr (.inl a)
        · exact .inr (.inr a)
      · rintro (a | a | a)
        · exact .inl (.inl a)
        · exact .inl (.inr a)
        · exact .inr a
/-- the keys of the dict: each of the fractions, once *)-/
theorem keysQ (l : List Rat) : ∃ ks : List Rat, (mergeM [] (l.map fun q => (kQ q, D.bl true))).map (·.1) = ks.map kQ ∧ ks.Nodup ∧ ∀ q, q ∈ ks ↔ q ∈ l := by
  obtain ⟨h1, h2⟩ := mergeM_keys (l.map fun q => (kQ q, D.bl true)) [] (by simp)
  generalize (mergeM [] (l.map fun q => (kQ q, D.bl true))).map (·.1) = K at h1 h2
  have h3 : ∀ k, k ∈ K → ∃ q, q ∈ l ∧ kQ q = k := fun k hk => by
    rcases (h2 k).mp hk with a | a
    · cases a
    · rw [List.map_map] at a
      obtain ⟨q, x, y⟩ := List.mem_map.mp a
      exact ⟨q, x, y⟩
  have key : ∃ ks : List Rat, K = ks.map kQ := by
    clear h1 h2
    induction K with
    | nil => exact ⟨[], rfl⟩
    | cons k K ih =>
      obtain ⟨ks, e⟩ := ih fun k hk => h3 k (.tail _ hk)
      obtain ⟨q, _, e2⟩ := h3 k (.head _)
      exact ⟨q :: ks, by rw [List.map_cons, e2, e]⟩
  obtain ⟨ks, e⟩ := key
  refine ⟨ks, e, ?_, fun q => ?_⟩
  · rw [e] at h1
    exact (List.pairwise_map.mp h1).imp fun {a b} h z => h (by rw [z])
  · have : q ∈ ks ↔ kQ q ∈ K := by
      rw [e]
      exact ⟨fun h => List.mem_map_of_mem h, fun h => by
        obtain ⟨p, hp, e2⟩ := List.mem_map.mp h
        rw [← kQ_inj e2]; exact hp⟩
    rw [this, h2]
    constructor
    · rintro (a | a)
      · cases a
      · rw [List.map_map] at a
        obtain ⟨p, hp, e2⟩ := List.mem_map.mp a
        rw [← kQ_inj e2]; exact hp
    · intro h
      refine .inr ?_
      rw [List.map_map]
      exact List.mem_map.mpr ⟨q, h, rfl⟩
def prodD : List Rat → Nat
  | [] => 1
  | q :: qs => q.den * prodD qs
theorem prodD_dvd : ∀ {l : List Rat} {q : Rat}, q ∈ l → q.den ∣ prodD l
  | x :: l, q, h => by
    rcases List.mem_cons.mp h with rfl | h
    · exact Nat.dvd_mul_right _ _
    · exact Nat.dvd_trans (prodD_dvd h) (Nat.dvd_mul_left _ _)
theorem prodD_pos : ∀ (l : List Rat), 0 < prodD l
  | [] => by decide
  | x :: l => Nat.mul_pos x.den_pos (prodD_pos l)
theorem prodD_bd : ∀ {l : List Rat}, (∀ q, q ∈ l → Sz 100 q) → Bd (100 * l.length + 1) (prodD l : Nat)
  | [], _ => bd_of (by decide)
  | x :: l, h => by
    have a := (h x (.head _)).den
    have b := prodD_bd fun q hq => h q (.tail _ hq)
    have := a.mul b
    rw [List.length_cons, show 100 * (l.length + 1) + 1 = 100 + (100 * l.length + 1) by omega]
    show Bd _ ((x.den * prodD l : Nat) : Int)
    rw [Int.natCast_mul]
    exact this
theorem keyQ_le {S : Nat} {p q : Rat} (hS : 0 < S) (hp : p.den ∣ S) (hq : q.den ∣ S) : p.num * ((S : Int).fdiv p.den) ≤ q.num * ((S : Int).fdiv q.den) ↔ p ≤ q := by
  obtain ⟨a, ha⟩ := hp
  obtain ⟨b, hb⟩ := hq
  have p0 := p.den_pos
  have q0 := q.den_pos
  have ea : (S : Int).fdiv p.den = a := by
    rw [ha, Int.natCast_mul, Int.fdiv_eq_ediv_of_nonneg _ (by omega), Int.mul_ediv_cancel_left _ (by omega)]
  have eb : (S : Int).fdiv q.den = b := by
    rw [hb, Int.natCast_mul, Int.fdiv_eq_ediv_of_nonneg _ (by omega), Int.mul_ediv_cancel_left _ (by omega)]
  have a0 : 0 < a := Nat.pos_of_ne_zero fun z => by rw [z] at ha; omega
  have b0 : 0 < b := Nat.pos_of_ne_zero fun z => by rw [z] at hb; omega
  rw [ea, eb, Rat.le_iff]
  -- multiply by dens
  have hS' : (p.den : Int) * a = (q.den : Int) * b := by rw [← Int.natCast_mul, ← Int.natCast_mul, ← ha, ← hb]
  have k0 : (0 : Int) < (p.den : Int) * a := by rw [← Int.natCast_mul, ← ha]; omega
  constructor
  · intro h
    have h1 := Int.mul_le_mul_of_nonneg_right h (show (0 : Int) ≤ (p.den : Int) * q.den by exact Int.mul_nonneg (by omega) (by omega))
    have e1 : p.num * (a : Int) * ((p.den : Int) * q.den) = p.num * q.den * ((p.den : Int) * a) := by grind
    have e2 : q.num * (b : Int) * ((p.den : Int) * q.den) = q.num * p.den * ((p.den : Int) * a) := by rw [hS']; grind
    rw [e1, e2] at h1
    exact Int.le_of_mul_le_mul_right h1 k0
  · intro h
    have h1 := Int.mul_le_mul_of_nonneg_right h (Int.le_of_lt k0)
    have e1 : p.num * q.den * ((p.den : Int) * a) = p.num * (a : Int) * ((p.den : Int) * q.den) := by grind
    have e2 : q.num * p.den * ((p.den : Int) * a) = q.num * (b : Int) * ((p.den : Int) * q.den) := by rw [hS']; grind
    rw [e1, e2] at h1
    exact Int.le_of_mul_le_mul_right h1 (Int.mul_pos (by omega) (by omega))

/-! cells and their edges, of cells of the page alone *)-/
structure CellOk (c r s i j : Int) : Prop where
  i0 : 0 ≤ i
  i1 : i < c
  j0 : 0 ≤ j
  j1 : j < r
  c1 : c ≤ 100
  r1 : r ≤ 100
  s0 : 1 ≤ s
  s1 : s ≤ 100
def eI3 (a b c : Int) : D := .tup [.int a, .int b, .int c]
def eI2 (a b : Int) : D := .tup [.int a, .int b]
def eI4 (a b c d : Int) : D := .tup [.int a, .int b, .int c, .int d]
def g_is_cell : G := fun ds R E M => ∃ (c r s i j : Int), ds = [eI3 c r s, eI2 i j] ∧ (R (.bl (decide (0 ≤ i ∧ i < c ∧ 0 ≤ j ∧ j < r))) M)
abbrev n_is_cell : List Str := ["page", "cell"]
def tb_is_cell : DTS :=
  (dRet (dAndV (dChain leD ltD (dC (.int 0)) (dIx (dVar 1) (dC (.int 0))) (dIx (dVar 0) (dC (.int 0)))) (dChain leD ltD (dC (.int 0)) (dIx (dVar 1) (dC (.int 1))) (dIx (dVar 0) (dC (.int 1))))))
theorem l_is_cell : ∀ ds R E M, g_is_cell ds R E M → ds.length = 2 := by
  rintro ds R E M ⟨_, _, _, _, _, rfl, -⟩; rfl
theorem u_is_cell {c r s i j : Int} {R : PD} {E : Ex → MS → Prop} {M : MS}  (k : R (.bl (decide (0 ≤ i ∧ i < c ∧ 0 ≤ j ∧ j < r))) M) : g_is_cell [eI3 c r s, eI2 i j] R E M := ⟨_, _, _, _, _, rfl, k⟩
theorem h_is_cell : Hg g_is_cell tb_is_cell n_is_cell := by
  rintro ds R E M ⟨c, r, s, i, j, rfl, k⟩
  unfold tb_is_cell
  unfold eI3 eI2
  walk_at "dn"
  by_cases h1 : 0 ≤ i
  · simp only [h1, decide_true, true_and, if_true] at k ⊢
    by_cases h2 : i < c
    · simp only [h2, decide_true, true_and, if_true] at k ⊢
      by_cases h3 : 0 ≤ j
      · simp only [h3, decide_true, true_and, if_true] at k ⊢
        exact Rw.of k
      · simp only [h3, decide_false, false_and, Bool.false_eq_true, if_false] at k ⊢
        exact Rw.of k
    · simp only [h2, decide_false, false_and, Bool.false_eq_true, if_false] at k ⊢
      exact Rw.of k
  · simp only [h1, decide_false, false_and, Bool.false_eq_true, if_false] at k ⊢
    exact Rw.of k
theorem cell_b {c r s i j : Int} (h : CellOk c r s i j) : (0 ≤ i * s ∧ i * s ≤ 100 * 100) ∧ (0 ≤ j * s ∧ j * s ≤ 100 * 100) := by
  have := h.i0; have := h.i1; have := h.j0; have := h.j1; have := h.c1; have := h.r1; have := h.s0; have := h.s1
  exact ⟨mulB ⟨h.i0, by omega⟩ ⟨by omega, h.s1⟩, mulB ⟨h.j0, by omega⟩ ⟨by omega, h.s1⟩⟩
theorem cell_bd {c r s i j : Int} (h : CellOk c r s i j) : Bd 20 (i * s) ∧ Bd 20 (j * s) ∧ Bd 20 (i * s + s) ∧ Bd 20 (j * s + s) := by
  have := h.s0; have := h.s1
  obtain ⟨⟨a, b⟩, c, d⟩ := cell_b h
  exact ⟨bd_of (by omega), bd_of (by omega), bd_of (by omega), bd_of (by omega)⟩
def g_cell_edges : G := fun ds R E M => ∃ (c r s i j : Int), ds = [eI3 c r s, eI2 i j] ∧ (CellOk c r s i j) ∧ (R (eI4 (i * s) (j * s) (i * s + s) (j * s + s)) M)
abbrev n_cell_edges : List Str := ["page", "cell", "left", "low"]
def tb_cell_edges : DTS :=
  (dSeq (dIfS (dNot (dTru (dCall g_is_cell (dCons (dVar 0) (dCons (dVar 1) dNil))))) dNever dNext)
  (dSeq (dPar 2 3 (dCons (dOp mulD (dIx (dVar 1) (dC (.int 0))) (dIx (dVar 0) (dC (.int 2)))) (dCons (dOp mulD (dIx (dVar 1) (dC (.int 1))) (dIx (dVar 0) (dC (.int 2)))) dNil)))
  (dRet (dTup (dCons (dVar 2) (dCons (dVar 3) (dCons (dOp addD (dVar 2) (dIx (dVar 0) (dC (.int 2)))) (dCons (dOp addD (dVar 3) (dIx (dVar 0) (dC (.int 2)))) dNil))))))))
theorem l_cell_edges : ∀ ds R E M, g_cell_edges ds R E M → ds.length = 2 := by
  rintro ds R E M ⟨_, _, _, _, _, rfl, -⟩; rfl
theorem u_cell_edges {c r s i j : Int} {R : PD} {E : Ex → MS → Prop} {M : MS} (h : CellOk c r s i j) (k : R (eI4 (i * s) (j * s) (i * s + s) (j * s + s)) M) : g_cell_edges [eI3 c r s, eI2 i j] R E M := ⟨_, _, _, _, _, rfl, h, k⟩
theorem h_cell_edges : Hg g_cell_edges tb_cell_edges n_cell_edges := by
  rintro ds R E M ⟨c, r, s, i, j, rfl, h, k⟩
  unfold tb_cell_edges
  have hc : decide (0 ≤ i ∧ i < c ∧ 0 ≤ j ∧ j < r) = true := decide_eq_true ⟨h.i0, h.i1, h.j0, h.j1⟩
  have b := h.i1; have b2 := h.c1; have b3 := h.j1; have b4 := h.r1; have b5 := h.s0; have b6 := h.s1; have b7 := h.i0; have b8 := h.j0
  walk_at "dn"
  refine u_is_cell ?_
  rw [hc]
  try walk_at "dn"
  unfold eI3 eI2
  try walk_at "dn"
  refine ⟨cms ⟨by omega, by omega⟩ ⟨by omega, by omega⟩, cms ⟨by omega, by omega⟩ ⟨by omega, by omega⟩, by decide, Rw.of k⟩

/-! rising *)-/

def g_rising_lam1 : G := fun ds R E M => ∃ (q : Rat) (S : Int), ds = [eF q, .int S] ∧ (Sz 100 q) ∧ (Bd 300200 S) ∧ (0 ≤ S) ∧ (R (.int (q.num * S.fdiv q.den)) M)
abbrev n_rising_lam1 : List Str := ["one", "scale"]
def te_rising_lam1 : DTE :=
  (dOp mulD (dIx (dVar 0) (dC (.int 0))) (dOp fdivD (dVar 1) (dIx (dVar 0) (dC (.int 1)))))
theorem l_rising_lam1 : ∀ ds R E M, g_rising_lam1 ds R E M → ds.length = 1 + 1 := by
  rintro ds R E M ⟨_, _, rfl, -⟩; rfl
theorem u_rising_lam1 {q : Rat} {S : Int} {R : PD} {E : Ex → MS → Prop} {M : MS} (hq : Sz 100 q) (hS : Bd 300200 S) (h0 : 0 ≤ S) (k : R (.int (q.num * S.fdiv q.den)) M) : g_rising_lam1 [eF q, .int S] R E M := ⟨_, _, rfl, hq, hS, h0, k⟩
theorem h_rising_lam1 : HgL g_rising_lam1 te_rising_lam1 n_rising_lam1 := by
  rintro ds R E M ⟨q, S, rfl, hq, hS, h0, k⟩
  unfold te_rising_lam1
  walk_at "dn"
  simp only [qy0, qy1]
  try walk_at "dn"
  have b : Bd 300200 (S.fdiv (q.den : Int)) := hS.of_le (by
    rw [Int.fdiv_eq_ediv_of_nonneg _ (by omega)]
    have a1 := Int.ediv_nonneg h0 (show (0 : Int) ≤ q.den by omega)
    have a2 := Int.ediv_le_self (q.den : Int) h0
    omega)
  exact ⟨⟨den_ne q, Nat.lt_trans (hq.den.log (by decide)) (by decide)⟩, hq.num.cmul b (by decide) (by decide), Rw.of k⟩
def keyN (S : Int) : PySem.NestedKey → Int
  | .tup [.num a, .num b] => a * S.fdiv b
  | _ => 0
def unQ : PySem.NestedKey → Rat
  | .tup [.num a, .num b] => Rat.divInt a b
  | _ => 0
theorem unQ_kQ (q : Rat) : unQ (kQ q) = q := self_eq q
theorem prodD_snoc (q : Rat) : ∀ l : List Rat, prodD (l ++ [q]) = prodD l * q.den
  | [] => by simp [prodD]
  | x :: l => by
    show x.den * prodD (l ++ [q]) = x.den * prodD l * q.den
    rw [prodD_snoc q l, Nat.mul_assoc]
def g_rising : G := fun ds R E M => ∃ (l : List Rat), ds = [.lst (l.map eF)] ∧ (∀ q, q ∈ l → Sz 100 q) ∧ (l.length ≤ 3000) ∧ (R (.lst ((risW l).map eF)) M)
abbrev n_rising : List Str := ["some", "known", "scale", "one"]
def tb_rising : DTS :=
  (dSeq (dSet 1 (dCB dctND (dCons (dLc (dItems (dVar 0)) (.nm 3) dYes (dTup (dCons (dVar 3) (dCons (dC (.bl true)) dNil))) [3]) dNil)))
  (dSeq (dSet 2 (dC (.int 1)))
  (dSeq (dForK 1 (.nm 3) (dAug 2 (dIx (dVar 3) (dC (.int 1))) augM))
  (dRet (dSortK g_rising_lam1 [2] (dVar 1))))))
theorem l_rising : ∀ ds R E M, g_rising ds R E M → ds.length = 1 := by
  rintro ds R E M ⟨_, rfl, -⟩; rfl
theorem u_rising {l : List Rat} {R : PD} {E : Ex → MS → Prop} {M : MS} (hl : ∀ q, q ∈ l → Sz 100 q) (hn : l.length ≤ 3000) (k : R (.lst ((risW l).map eF)) M) : g_rising [.lst (l.map eF)] R E M := ⟨_, rfl, hl, hn, k⟩
theorem h_rising : Hg g_rising tb_rising n_rising := by
  rintro ds R E M ⟨l, rfl, hl, hn, k⟩
  unfold tb_rising
  walk_at "dn"
  refine lc_mapG eF (fun q => D.tup [eF q, .bl true]) (fun q hq R kq => ?_) (slz (by omega)) ?_
  · walk_at "dn"
    exact ⟨by decide, kq⟩
  refine ⟨l.map fun q => (kQ q, D.bl true), ?_, fun kv hkv => ?_, fun p hp => ?_⟩
  · rw [List.map_map]
    refine List.map_congr_left fun q _ => ?_
    show D.tup [eF q, .bl true] = D.tup [kD (kQ q), .bl true]
    rw [kD_kQ]
  · obtain ⟨q, _, rfl⟩ := List.mem_map.mp hkv
    exact kQ_ok q
  obtain ⟨ks, e1, nd, mem⟩ := keysQ l
  generalize mergeM [] (l.map fun q => (kQ q, D.bl true)) = kvs at e1 ⊢
  have hks : ∀ q, q ∈ ks → Sz 100 q := fun q hq => hl q ((mem q).mp hq)
  have hkl : ks.length ≤ 3000 := Nat.le_trans (nd.length_le_of_subset fun q hq => (mem q).mp hq) hn
  have hsub : ∀ done rest : List Rat, ks = done ++ rest → Bd 300200 (prodD done : Nat) := fun done rest e => by
    have h1 := prodD_bd (l := done) fun q hq => hks q (by rw [e]; exact List.mem_append_left _ hq)
    rw [e, List.length_append] at hkl
    exact h1.mono (by omega)
  refine ⟨kvs, um_same, ?_⟩
  rw [show (kvs.map fun kv => kD kv.1) = ks.map eF by
    have := congrArg (List.map kD) e1
    rw [List.map_map, List.map_map] at this
    refine Eq.trans this ?_
    exact List.map_congr_left fun q _ => kD_kQ q]
  refine for_ind (fun its ρ M' => M' = dm M p ∧ ∃ (done rest : List Rat) (d3 : Option D), ks = done ++ rest ∧ its = rest.map eF ∧ ρ = [some (.lst (l.map eF)), some (.ref p), some (.int (prodD done : Nat)), d3]) ?_ ?_ ⟨dm_um, [], ks, _, rfl, rfl, rfl⟩
  · rintro d its ρ M' Kx ⟨rfl, done, rest, d3, e2, e3, rfl⟩ hk
    cases rest with
    | nil => cases e3
    | cons q rest =>
      cases e3
      walk_at "dn"
      simp only [qy1]
      try walk_at "dn"
      refine ⟨(hsub _ _ e2).cmul (hks q (by rw [e2]; simp)).den (by decide) (by decide), ?_⟩
      refine hk _ _ ⟨rfl, done ++ [q], rest, some (eF q), by rw [e2, List.append_assoc]; rfl, rfl, ?_⟩
      rw [prodD_snoc, Int.natCast_mul]
  · rintro ρ M' ⟨rfl, done, rest, d3, e2, e3, rfl⟩
    have er : rest = [] := by cases rest <;> first | rfl | cases e3
    subst er
    rw [List.append_nil] at e2
    subst e2
    have hS := hsub ks [] (by simp)
    have hle : Le M (um (dm M p) p (.dn kvs)) := fun x u hx => by
      have ne : x ≠ p := fun z => by rw [z, hp] at hx; cases hx
      rw [um_ne ne, dm_ne ne]
      exact hx
    have S0 := prodD_pos ks
    unfold lockM

    walk_at "dn"
    refine ⟨p, rfl, kvs, um_same, keyN (prodD ks : Nat), fun kv hkv => ?_, fun ys pm srt => ?_⟩
    · have h1 : kv.1 ∈ ks.map kQ := by rw [← e1]; exact List.mem_map_of_mem hkv
      obtain ⟨q, hq, e4⟩ := List.mem_map.mp h1
      rw [← e4, kD_kQ]
      exact u_rising_lam1 (hks q hq) hS (by omega) ⟨rfl, rfl⟩
    · have pm : ys.Perm (ks.map kQ) := by rw [← e1]; exact pm
      have hall : ∀ y, y ∈ ys → ∃ q, q ∈ ks ∧ kQ q = y := fun y hy => List.mem_map.mp (pm.mem_iff.mp hy)
      have ey : ys = (ys.map unQ).map kQ := by
        rw [List.map_map]
        refine Eq.symm (Eq.trans (List.map_congr_left (g := id) fun y hy => ?_) (List.map_id _))
        obtain ⟨q, _, rfl⟩ := hall y hy
        show kQ (unQ (kQ q)) = kQ q
        rw [unQ_kQ]
      have hz : (ys.map unQ).Perm ks := by
        have := pm.map unQ
        rw [List.map_map, show (unQ ∘ kQ) = id from funext unQ_kQ, List.map_id] at this
        exact this
      have nz : (ys.map unQ).Nodup := hz.nodup_iff.mpr nd
      have hr : Ris (ys.map unQ) := by
        rw [ey, List.pairwise_map] at srt
        have both := (List.pairwise_and_iff.mpr ⟨srt, nz⟩)
        refine (List.Pairwise.imp_of_mem (fun {a b} ha hb h => ?_) both)
        have ha' := hz.mem_iff.mp ha
        have hb' := hz.mem_iff.mp hb
        have := (keyQ_le S0 (prodD_dvd ha') (prodD_dvd hb')).mp h.1
        exact Rat.lt_of_le_of_ne this h.2
      have e5 : ys.map unQ = risW l := ris_one hr (risW_ris l) fun x => by rw [hz.mem_iff, mem, risW_mem]
      rw [ey, List.map_map, show (kD ∘ kQ) = eF from funext kD_kQ, e5]
      exact Rw.le k hle

/-! heights_of *)-/
structure SdB (sd : List Sd) : Prop where
  len : sd.length ≤ 40
  pts : ∀ s, s ∈ sd → PtB s.1.1 ∧ PtB s.1.2 ∧ s.1.1.2 ≠ s.1.2.2
def accW (ed : Option (Int × Int)) (s : Pt × Pt) (h : Rat) : Bool := match ed with
  | none => true
  | some e => decide (((e.1 : Int) : Rat) ≤ atW s h ∧ atW s h ≤ ((e.2 : Int) : Rat))
def crossA (ed : Option (Int × Int)) (s : Pt × Pt) (o : Sd) : List (Option Rat) := match crossW s o.1 with
  | none => []
  | some h => if accW ed s h = true then [some h] else []
def meetsA (ed : Option (Int × Int)) (s : Pt × Pt) : List (Option Rat) := match ed with
  | none => []
  | some e => [meetW s e.1, meetW s e.2]
def fOf (ed : Option (Int × Int)) (s : Pt × Pt) (ahead : List Sd) : List (Option Rat) := [some ((mnY s : Int) : Rat), some ((mxY s : Int) : Rat)] ++ meetsA ed s ++ ahead.flatMap (crossA ed s)
def foundW (ed : Option (Int × Int)) : List Sd → List Sd → List (Option Rat)
  | _, [] => []
  | pre, s :: suf => fOf ed s.1 pre ++ foundW ed (pre ++ [s]) suf
def withinW (sd : List Sd) (lo hi : Int) (ed : Option (Int × Int)) : List Rat := ((foundW ed [] sd).filterMap id).filter fun x => decide ((lo : Rat) < x ∧ x < (hi : Rat))
def heightsW (sd : List Sd) (lo hi : Int) (ed : Option (Int × Int)) : List Rat := risW (withinW sd lo hi ed ++ [(lo : Rat), (hi : Rat)])
def eEd : Option (Int × Int) → D
  | none => .non
  | some e => .tup [.int e.1, .int e.2]
def EdB : Option (Int × Int) → Prop
  | none => True
  | some e => Bd 20 e.1 ∧ Bd 20 e.2
def g_heights_of : G := fun ds R E M => ∃ (sd : List Sd) (lo hi : Int) (ed : Option (Int × Int)), ds = [.lst (sd.map eSd), .int lo, .int hi, eEd ed] ∧ (SdB sd) ∧ (Bd 20 lo) ∧ (Bd 20 hi) ∧ (EdB ed) ∧ (R (eFs (heightsW sd lo hi ed)) M)
abbrev n_heights_of : List Str := ["sides", "low", "high", "edges", "found", "some", "within", "k", "side", "sign", "other", "ahead", "height", "one", "end", "x"]
def tb_heights_of_b2 : DTS :=
  (dSeq (dSet 12 (dCall g_crossing_height (dCons (dVar 8) (dCons (dVar 10) dNil))))
  (dIfS (dAnd (dTst (dOp (isD fun k => !k) (dVar 12) (dC .non))) (dOr (dTst (dOp (isD id) (dVar 3) (dC .non))) (dTru (dCall g_is_across (dCons (dVar 8) (dCons (dVar 12) (dCons (dVar 3) dNil))))))) (dExpr (dMt appD (dVar 4) (dCons (dVar 12) dNil))) dNext))
def tb_heights_of_b1_p (t_b2 : DTS) : DTS :=
  (dSeq (dExpr (dMt extD (dVar 4) (dCons (dLc (dItems (dCall g_ends_of (dCons (dVar 8) dNil))) (.nm 14) dYes (dCall g_whole (dCons (dVar 14) dNil)) [14]) dNil)))
  (dSeq (dExpr (dMt extD (dVar 4) (dCons (dLc (dItems (dIf (dTst (dOp (isD id) (dVar 3) (dC .non))) (dTup dNil) (dVar 3))) (.nm 15) dYes (dCall g_meeting (dCons (dVar 8) (dCons (dVar 15) dNil))) [15]) dNil)))
  (dFor (dItems (dSl (dVar 0) dNoPart (dPart (dVar 7)))) (.tp [(.nm 10), (.nm 11)]) t_b2)))
def tb_heights_of_b1 : DTS := tb_heights_of_b1_p tb_heights_of_b2
def tb_heights_of_c2 : DTS :=
  (dSeq (dSet 5 (dLcL 4 (.nm 13) (dTst (dOp (isD fun k => !k) (dVar 13) (dC .non))) (dVar 13) [13]))
  (dSeq (dSet 6 (dLc (dItems (dVar 5)) (.nm 13) (dAnd (dTru (dCall g_is_below (dCons (dCall g_whole (dCons (dVar 1) dNil)) (dCons (dVar 13) dNil)))) (dTru (dCall g_is_below (dCons (dVar 13) (dCons (dCall g_whole (dCons (dVar 2) dNil)) dNil))))) (dVar 13) [13]))
  (dRet (dCB tupD (dCons (dCall g_rising (dCons (dOp addD (dVar 6) (dLst (dCons (dCall g_whole (dCons (dVar 1) dNil)) (dCons (dCall g_whole (dCons (dVar 2) dNil)) dNil)))) dNil)) dNil)))))
def tb_heights_of_p (t_b1 : DTS) (t_c2 : DTS) : DTS :=
  (dSeq (dSet 4 (dLstN dNil))
  (dSeq (dFor (dEnum (dCons (dVar 0) dNil)) (.tp [(.nm 7), (.tp [(.nm 8), (.nm 9)])]) t_b1)
  t_c2))
def tb_heights_of : DTS := tb_heights_of_p tb_heights_of_b1 tb_heights_of_c2
theorem l_heights_of : ∀ ds R E M, g_heights_of ds R E M → ds.length = 4 := by
  rintro ds R E M ⟨_, _, _, _, rfl, -⟩; rfl
theorem u_heights_of {sd : List Sd} {lo hi : Int} {ed : Option (Int × Int)} {R : PD} {E : Ex → MS → Prop} {M : MS} (hs : SdB sd) (bl : Bd 20 lo) (bh : Bd 20 hi) (be : EdB ed) (k : R (eFs (heightsW sd lo hi ed)) M) : g_heights_of [.lst (sd.map eSd), .int lo, .int hi, eEd ed] R E M := ⟨_, _, _, _, rfl, hs, bl, bh, be, k⟩
theorem crossA_len (ed : Option (Int × Int)) (s : Pt × Pt) (o : Sd) : (crossA ed s o).length ≤ 1 := by
  unfold crossA
  split
  · simp
  · split <;> simp
theorem hts_b2 {ed : Option (Int × Int)} {s : Pt × Pt} {o : Sd} {a : Addr} {acc : List (Option Rat)} {De : DEnds} {M : MS} {d0 d1 d2 d5 d6 d7 d9 d12 d13 d14 d15 : Option D} (h1 : PtB s.1) (h2 : PtB s.2) (hn : s.1.2 ≠ s.2.2) (o1 : PtB o.1.1) (o2 : PtB o.1.2) (be : EdB ed) (hl : acc.length ≤ 90000)
    (k : ∀ d12, De.nx [d0, d1, d2, some (eEd ed), some (.ref a), d5, d6, d7, some (eSide s), d9, some (eSide o.1), some (.int o.2), d12, d13, d14, d15] (um M a (.lst ((acc ++ crossA ed s o).map eO)))) :
    tb_heights_of_b2 De [d0, d1, d2, some (eEd ed), some (.ref a), d5, d6, d7, some (eSide s), d9, some (eSide o.1), some (.int o.2), d12, d13, d14, d15] (um M a (.lst (acc.map eO))) := by
  unfold tb_heights_of_b2
  walk_at "dn"
  refine u_crossing_height h1 h2 o1 o2 ?_
  unfold crossA at k
  cases q : crossW s o.1 with
  | none =>
    rw [q] at k
    simp only [List.append_nil] at k
    unfold eO
    try walk_at "dn"
    exact k _
  | some h =>
    rw [q] at k
    obtain ⟨z1, z2, z3⟩ := crossW_sz h1 h2 o1 o2 q
    have happ : accW ed s h = true → ∀ d12, De.nx [d0, d1, d2, some (eEd ed), some (.ref a), d5, d6, d7, some (eSide s), d9, some (eSide o.1), some (.int o.2), d12, d13, d14, d15] (um M a (.lst (acc.map eO ++ [D.tup [.int h.num, .int h.den]]))) := fun c d12 => by
      have k2 := k d12
      simp only [c, if_true] at k2
      rw [List.map_append] at k2
      exact k2
    have hsz : (acc.map eO).length < sizeLine := by rw [List.length_map]; exact slt (by omega)
    have hno : accW ed s h = false → ∀ d12, De.nx [d0, d1, d2, some (eEd ed), some (.ref a), d5, d6, d7, some (eSide s), d9, some (eSide o.1), some (.int o.2), d12, d13, d14, d15] (um M a (.lst (acc.map eO))) := fun c d12 => by
      have k2 := k d12
      simp only [c, Bool.false_eq_true, if_false, List.append_nil] at k2
      exact k2
    clear k
    generalize acc.map eO = ac at happ hno hsz ⊢
    rw [show eO (some h) = D.tup [.int h.num, .int h.den] from rfl]
    cases ed with
    | none =>
      rw [show eEd none = D.non from rfl] at *
      try walk_at "dn"
      exact ⟨⟨_, rfl⟩, hsz, happ rfl _⟩
    | some e =>
      rw [show eEd (some e) = D.tup [.int e.1, .int e.2] from rfl] at *
      try walk_at "dn"
      refine u_is_across (h := h) h1 h2 hn z1 ⟨z2.1, z2.2⟩ be.1 be.2 ?_
      by_cases c : ((e.1 : Int) : Rat) ≤ atW s h ∧ atW s h ≤ ((e.2 : Int) : Rat)
      · rw [decide_eq_true c]
        try walk_at "dn"
        exact ⟨⟨_, rfl⟩, hsz, happ (decide_eq_true c) _⟩
      · rw [decide_eq_false c]
        try walk_at "dn"
        exact hno (decide_eq_false c) _
theorem flatC_len (ed : Option (Int × Int)) (s : Pt × Pt) (l : List Sd) : (l.flatMap (crossA ed s)).length ≤ l.length := by
  induction l with
  | nil => simp
  | cons o l ih =>
    have := crossA_len ed s o
    rw [List.flatMap_cons, List.length_append, List.length_cons]
    omega
theorem fOf_len (ed : Option (Int × Int)) (s : Pt × Pt) (ahead : List Sd) : (fOf ed s ahead).length ≤ 4 + ahead.length := by
  have h : ∀ l : List Sd, (l.flatMap (crossA ed s)).length ≤ l.length := fun l => by
    induction l with
    | nil => simp
    | cons o l ih =>
      have := crossA_len ed s o
      rw [List.flatMap_cons, List.length_append, List.length_cons]
      omega
  have := h ahead
  unfold fOf meetsA
  cases ed <;> simp only [List.length_append, List.length_cons, List.length_nil] <;> omega
theorem hts_for {sd : List Sd} {ed : Option (Int × Int)} {s : Sd} {a : Addr} {De : DEnds} {M : MS} {d0 d1 d2 d5 d6 d7 d13 d14 d15 : Option D} (hs : SdB sd) (hk : s ∈ sd) (be : EdB ed) :
    ∀ (suf : List Sd) (acc : List (Option Rat)) (d10 d11 d12 : Option D), (∀ o, o ∈ suf → o ∈ sd) → acc.length + suf.length ≤ 90000 →
    (∀ d10 d11 d12, De.nx [d0, d1, d2, some (eEd ed), some (.ref a), d5, d6, d7, some (eSide s.1), some (.int s.2), d10, d11, d12, d13, d14, d15] (um M a (.lst ((acc ++ suf.flatMap (crossA ed s.1)).map eO)))) →
    forW (.tp [.nm 10, .nm 11]) tb_heights_of_b2 De (suf.map eSd) [d0, d1, d2, some (eEd ed), some (.ref a), d5, d6, d7, some (eSide s.1), some (.int s.2), d10, d11, d12, d13, d14, d15] (um M a (.lst (acc.map eO))) := by
  intro suf acc d10 d11 d12 hsub hl k
  obtain ⟨h1, h2, hn⟩ := hs.pts s hk
  refine for_ind (fun its ρ M' => ∃ (pre suf' : List Sd) (d10 d11 d12 : Option D), suf = pre ++ suf' ∧ its = suf'.map eSd ∧ M' = um M a (.lst ((acc ++ pre.flatMap (crossA ed s.1)).map eO)) ∧ ρ = [d0, d1, d2, some (eEd ed), some (.ref a), d5, d6, d7, some (eSide s.1), some (.int s.2), d10, d11, d12, d13, d14, d15]) ?_ ?_ ⟨[], suf, _, _, _, rfl, rfl, by rw [List.flatMap_nil, List.append_nil], rfl⟩
  · rintro d its ρ M' Kx ⟨pre, suf', d10, d11, d12, e1, e2, rfl, rfl⟩ hk
    cases suf' with
    | nil => cases e2
    | cons o suf' =>
      cases e2
      obtain ⟨o1, o2, _⟩ := hs.pts o (hsub o (by rw [e1]; simp))
      have hlen : (pre.flatMap (crossA ed s.1)).length ≤ pre.length := flatC_len ed s.1 pre
      have hl2 : suf.length = pre.length + (suf'.length + 1) := by rw [e1, List.length_append, List.length_cons]
      unfold eSd
      walk_at "dn"
      refine hts_b2 h1 h2 hn o1 o2 be (by rw [List.length_append]; omega) fun d12 => ?_
      refine hk _ _ ⟨pre ++ [o], suf', _, _, _, by rw [e1, List.append_assoc]; rfl, rfl, ?_, rfl⟩
      rw [List.flatMap_append, List.flatMap_cons, List.flatMap_nil, List.append_nil, List.append_assoc]
  · rintro ρ M' ⟨pre, suf', d10, d11, d12, e1, e2, rfl, rfl⟩
    have er : suf' = [] := by cases suf' <;> first | rfl | cases e2
    subst er
    rw [List.append_nil] at e1
    subst e1
    exact k _ _ _
theorem hts_b1 {sd : List Sd} {ed : Option (Int × Int)} {k : Nat} {s : Sd} {a : Addr} {acc : List (Option Rat)} {De : DEnds} {M : MS} {d1 d2 d5 d6 d10 d11 d12 d13 d14 d15 : Option D} (hs : SdB sd) (hk : sd[k]? = some s) (be : EdB ed) (hl : acc.length ≤ 80000)
    (kk : ∀ d10 d11 d12, De.nx [some (.lst (sd.map eSd)), d1, d2, some (eEd ed), some (.ref a), d5, d6, some (.int (k : Nat)), some (eSide s.1), some (.int s.2), d10, d11, d12, d13, d14, d15] (um M a (.lst ((acc ++ fOf ed s.1 (sd.take k)).map eO)))) :
    tb_heights_of_b1 De [some (.lst (sd.map eSd)), d1, d2, some (eEd ed), some (.ref a), d5, d6, some (.int (k : Nat)), some (eSide s.1), some (.int s.2), d10, d11, d12, d13, d14, d15] (um M a (.lst (acc.map eO))) := by
  obtain ⟨h1, h2, hn⟩ := hs.pts s (List.mem_of_getElem? hk)
  have hln := hs.len
  unfold tb_heights_of_b1 tb_heights_of_b1_p
  walk_at "dn"
  refine ⟨⟨_, rfl⟩, ?_⟩
  refine u_ends_of ?_
  try walk_at "dn"
  have hsm : s ∈ sd := List.mem_of_getElem? hk
  refine lc_mapG (ps := [mnY s.1, mxY s.1]) D.int (fun i => eF ((i : Int) : Rat)) (fun i hi R q => ?_) (slz (by simp)) ?_
  · walk_at "dn"
    exact u_whole q
  have tl : (sd.take k).length ≤ 40 := by rw [List.length_take]; omega
  have htake : ∀ o, o ∈ sd.take k → o ∈ sd := fun o ho => List.mem_of_mem_take ho
  have ecut : cut (sd.map eSd) none (some (k : Int)) = (sd.take k).map eSd := by rw [cut_take, List.map_take]
  have F := fun (acc' : List (Option Rat)) (d10 d11 d12 : Option D) (hl : acc'.length + (sd.take k).length ≤ 90000) (kx) => hts_for (De := De) (M := M) (a := a) (d0 := some (.lst (sd.map eSd))) (d1 := d1) (d2 := d2) (d5 := d5) (d6 := d6) (d7 := some (.int (k : Nat))) (d13 := d13) (d14 := d14) (d15 := d15) hs hsm be (sd.take k) acc' d10 d11 d12 htake hl kx
  refine ⟨_, um_same, _, rfl, by simp only [List.length_map, List.length_cons, List.length_nil]; exact slz (by omega), ⟨_, rfl⟩, ?_⟩
  rw [um_um, ecut]
  generalize tb_heights_of_b2 = tb at F ⊢
  have fin : forW (.tp [.nm 10, .nm 11]) tb De ((sd.take k).map eSd) [some (.lst (sd.map eSd)), d1, d2, some (eEd ed), some (.ref a), d5, d6, some (.int (k : Nat)), some (eSide s.1), some (.int s.2), d10, d11, d12, d13, d14, d15]
      (um M a (.lst ((acc ++ ([some ((mnY s.1 : Int) : Rat), some ((mxY s.1 : Int) : Rat)] ++ meetsA ed s.1)).map eO))) := by
    refine F _ _ _ _ (by
      have : (meetsA ed s.1).length ≤ 2 := by unfold meetsA; cases ed <;> simp
      simp only [List.length_append, List.length_cons, List.length_nil]; omega) fun d10 d11 d12 => ?_
    rw [List.append_assoc]
    exact kk _ _ _
  clear F kk
  cases ed with
  | none =>
    rw [show eEd none = D.non from rfl] at *
    simp only [if_true]
    refine ⟨by decide, _, um_same, [], rfl, by simp only [List.length_append, List.length_map, List.length_cons, List.length_nil]; exact slz (by omega), ?_⟩
    rw [um_um, List.append_nil]
    rw [show meetsA none s.1 = [] from rfl, List.append_nil, List.map_append] at fin
    exact fin
  | some e =>
    rw [show eEd (some e) = D.tup [.int e.1, .int e.2] from rfl] at *
    simp only [Bool.false_eq_true, if_false]
    refine lc_mapG (ps := [e.1, e.2]) D.int (fun i => eO (meetW s.1 i)) (fun i hi R q => ?_) (slz (by simp)) ?_
    · walk_at "dn"
      refine u_meeting h1 h2 ?_ q
      simp only [List.mem_cons, List.not_mem_nil, or_false] at hi
      rcases hi with rfl | rfl
      · exact be.1
      · exact be.2
    refine ⟨_, um_same, _, rfl, by simp only [List.length_append, List.length_map, List.length_cons, List.length_nil]; exact slz (by omega), ?_⟩
    rw [um_um]
    rw [show meetsA (some e) s.1 = [meetW s.1 e.1, meetW s.1 e.2] from rfl, List.map_append, List.map_append, ← List.append_assoc] at fin
    exact fin
theorem foundW_snoc (ed : Option (Int × Int)) (s : Sd) : ∀ (suf pre : List Sd), foundW ed pre (suf ++ [s]) = foundW ed pre suf ++ fOf ed s.1 (pre ++ suf)
  | [], pre => by simp [foundW]
  | x :: suf, pre => by
    show fOf ed x.1 pre ++ foundW ed (pre ++ [x]) (suf ++ [s]) = fOf ed x.1 pre ++ foundW ed (pre ++ [x]) suf ++ _
    rw [foundW_snoc ed s suf (pre ++ [x]), List.append_assoc, List.append_assoc]
    rfl
theorem hts_sz {sd : List Sd} {ed : Option (Int × Int)} (hs : SdB sd) (be : EdB ed) : ∀ (suf pre : List Sd), pre ++ suf = sd → ∀ q, some q ∈ foundW ed pre suf → Sz 100 q := by
  intro suf
  induction suf with
  | nil => intro pre _ q h; cases h
  | cons s suf ih =>
    intro pre e q h
    have hm : s ∈ sd := by rw [← e]; simp
    obtain ⟨h1, h2, hn⟩ := hs.pts s hm
    obtain ⟨b1, b2⟩ := mnY_b h1 h2
    unfold foundW at h
    rcases List.mem_append.mp h with h | h
    · unfold fOf at h
      rcases List.mem_append.mp h with h | h
      · rcases List.mem_append.mp h with h | h
        · simp only [List.mem_cons, List.not_mem_nil, or_false, Option.some.injEq] at h
          rcases h with rfl | rfl
          · exact (sz_int' b1 (by decide)).mono (by decide)
          · exact (sz_int' b2 (by decide)).mono (by decide)
        · unfold meetsA at h
          cases ed with
          | none => cases h
          | some e =>
            simp only [List.mem_cons, List.not_mem_nil, or_false] at h
            rcases h with h | h
            · exact meet_sz h1 h2 be.1 h.symm
            · exact meet_sz h1 h2 be.2 h.symm
      · obtain ⟨o, ho, hc⟩ := List.mem_flatMap.mp h
        obtain ⟨o1, o2, _⟩ := hs.pts o (by rw [← e]; exact List.mem_append_left _ ho)
        unfold crossA at hc
        split at hc
        · cases hc
        · rename_i x hx
          split at hc
          · rw [List.mem_singleton] at hc
            cases hc
            exact (crossW_sz h1 h2 o1 o2 hx).1
          · cases hc
    · exact ih (pre ++ [s]) (by rw [List.append_assoc]; exact e) q h
theorem foundW_len (ed : Option (Int × Int)) : ∀ (suf pre : List Sd), (foundW ed pre suf).length ≤ suf.length * (4 + pre.length + suf.length)
  | [], pre => by simp [foundW]
  | s :: suf, pre => by
    have h1 := fOf_len ed s.1 pre
    have h2 := foundW_len ed suf (pre ++ [s])
    unfold foundW
    rw [List.length_append, List.length_cons]
    rw [List.length_append, List.length_cons, List.length_nil] at h2
    have e : 4 + (pre.length + (0 + 1)) + suf.length = 4 + pre.length + (suf.length + 1) := by omega
    rw [e] at h2
    rw [Nat.succ_mul]
    omega
theorem hts_c2 {sd : List Sd} {lo hi : Int} {ed : Option (Int × Int)} {a : Addr} {R : PD} {E : Ex → MS → Prop} {M M0 : MS} {d0 d3 d5 d6 d7 d8 d9 d10 d11 d12 d13 d14 d15 : Option D} (hs : SdB sd) (bl : Bd 20 lo) (bh : Bd 20 hi) (be : EdB ed) (hM : M a = some (.lst ((foundW ed [] sd).map eO))) (hle : Le M0 M) (ha : M0 a = none)
    (k : R (eFs (heightsW sd lo hi ed)) M0) :
    tb_heights_of_c2 (ends R E) [d0, some (.int lo), some (.int hi), d3, some (.ref a), d5, d6, d7, d8, d9, d10, d11, d12, d13, d14, d15] M := by
  have hsz := hts_sz hs be sd [] rfl
  have hlen : (foundW ed [] sd).length ≤ 2000 := by
    have h1 := foundW_len ed sd []
    have h2 := hs.len
    have h3 := Nat.mul_le_mul h2 (show 4 + ([] : List Sd).length + sd.length ≤ 44 by simp; omega)
    omega
  have hall : ∀ q, q ∈ (foundW ed [] sd).filterMap id → Sz 100 q := fun q hq => by
    obtain ⟨o, ho, e⟩ := List.mem_filterMap.mp hq
    exact hsz q (by rw [← show o = some q from e]; exact ho)
  unfold tb_heights_of_c2
  walk_at "dn"
  refine ⟨_, hM, ?_⟩
  have efm : ((foundW ed [] sd).filter Option.isSome).map eO = ((foundW ed [] sd).filterMap id).map eF := by
    generalize foundW ed [] sd = l
    induction l with
    | nil => rfl
    | cons x l ih =>
      cases x with
      | none => simpa using ih
      | some q =>
        simp only [List.filter_cons, Option.isSome_some, if_true, List.map_cons, List.filterMap_cons, id]
        rw [ih]
        rfl
  refine lc_filtG eO eO Option.isSome (fun o ho Ky Kn hst => ?_) (slz (by omega)) ?_
  · cases o with
    | none =>
      simp only [Option.isSome_none, Bool.false_eq_true, if_false] at hst
      rw [show eO none = D.non from rfl]
      walk_at "dn"
      exact hst
    | some q =>
      simp only [Option.isSome_some, if_true] at hst
      rw [show eO (some q) = D.tup [.int q.num, .int q.den] from rfl] at hst ⊢
      walk_at "dn"
      exact hst
  rw [efm, um_dm hM]
  have hl2 : ((foundW ed [] sd).filterMap id).length ≤ 2000 := Nat.le_trans (List.length_filterMap_le _ _) hlen
  refine lc_filtG eF eF (fun x => decide ((lo : Rat) < x ∧ x < (hi : Rat))) (fun q hq Ky Kn hst => ?_) (slz (by omega)) ?_
  · have sq := hall q hq
    have sl := sz_int' bl (show 0 < 20 by decide)
    have sh := sz_int' bh (show 0 < 20 by decide)
    walk_at "dn"
    refine u_whole ?_
    try walk_at "dn"
    refine use_below _ _ sl sq (by decide) ?_
    by_cases c : (lo : Rat) < q
    · rw [decide_eq_true c]
      try walk_at "dn"
      refine u_whole ?_
      try walk_at "dn"
      refine use_below _ _ sq sh (by decide) ?_
      by_cases d : q < (hi : Rat)
      · rw [decide_eq_true d]
        rw [decide_eq_true ⟨c, d⟩, if_pos rfl] at hst
        try walk_at "dn"
        exact hst
      · rw [decide_eq_false d]
        rw [decide_eq_false (fun z => d z.2), if_neg (by decide)] at hst
        try walk_at "dn"
        exact hst
    · rw [decide_eq_false c]
      rw [decide_eq_false (fun z => c z.1), if_neg (by decide)] at hst
      try walk_at "dn"
      exact hst
  refine u_whole ?_
  try walk_at "dn"
  refine u_whole ?_
  try walk_at "dn"
  have hl3 : (withinW sd lo hi ed).length ≤ 2000 := Nat.le_trans (List.length_filter_le _ _) hl2
  refine ⟨by decide, by rw [List.length_map]; exact slz (by unfold withinW at hl3; omega), ?_⟩
  rw [show List.map eF (List.filter (fun x => decide ((lo : Rat) < x ∧ x < (hi : Rat))) ((foundW ed [] sd).filterMap id)) ++ [eF (lo : Rat), eF (hi : Rat)] = (withinW sd lo hi ed ++ [(lo : Rat), (hi : Rat)]).map eF by rw [List.map_append]; rfl]
  refine u_rising (fun q hq => ?_) (by rw [List.length_append]; simp only [List.length_cons, List.length_nil]; omega) ?_
  · rcases List.mem_append.mp hq with hq | hq
    · exact hall q (List.mem_filter.mp hq).1
    · simp only [List.mem_cons, List.not_mem_nil, or_false] at hq
      rcases hq with rfl | rfl
      · exact (sz_int' bl (by decide)).mono (by decide)
      · exact (sz_int' bh (by decide)).mono (by decide)
  refine ⟨_, rfl, ?_⟩
  exact Rw.le k hle
theorem h_heights_of : Hg g_heights_of tb_heights_of n_heights_of := by
  rintro ds R E M ⟨sd, lo, hi, ed, rfl, hs, bl, bh, be, k⟩
  unfold tb_heights_of
  have hB := fun k s a acc De M d1 d2 d5 d6 d10 d11 d12 d13 d14 d15 => hts_b1 (sd := sd) (ed := ed) (k := k) (s := s) (a := a) (acc := acc) (De := De) (M := M) (d1 := d1) (d2 := d2) (d5 := d5) (d6 := d6) (d10 := d10) (d11 := d11) (d12 := d12) (d13 := d13) (d14 := d14) (d15 := d15) hs
  have hC := fun a M' d0 d3 d5 d6 d7 d8 d9 d10 d11 d12 d13 d14 d15 => hts_c2 (sd := sd) (lo := lo) (hi := hi) (ed := ed) (a := a) (R := R) (E := E) (M := M') (M0 := M) (d0 := d0) (d3 := d3) (d5 := d5) (d6 := d6) (d7 := d7) (d8 := d8) (d9 := d9) (d10 := d10) (d11 := d11) (d12 := d12) (d13 := d13) (d14 := d14) (d15 := d15) hs bl bh be
  unfold tb_heights_of_p
  generalize tb_heights_of_b1 = tb at hB ⊢
  generalize tb_heights_of_c2 = tc at hC ⊢
  walk_at "dn"
  refine ⟨Nat.zero_le _, fun a ha => ?_⟩
  refine for_enuI eSd sd (fun j ρ M' => ∃ d7 d8 d9 d10 d11 d12 d13 d14 d15, M' = um M a (.lst ((foundW ed [] (sd.take j)).map eO)) ∧ ρ = [some (.lst (sd.map eSd)), some (.int lo), some (.int hi), some (eEd ed), some (.ref a), none, none, d7, d8, d9, d10, d11, d12, d13, d14, d15]) ?_ ?_ ⟨_, _, _, _, _, _, _, _, _, rfl, rfl⟩
  · rintro j s hj ρ M' Kx ⟨d7, d8, d9, d10, d11, d12, d13, d14, d15, rfl, rfl⟩ hk
    have hln := hs.len
    have e : sd.take (j + 1) = sd.take j ++ [s] := by rw [List.take_add_one, hj]; rfl
    unfold eSd
    walk_at "dn"
    refine hB j s a _ _ M _ _ _ _ _ _ _ _ _ _ hj be ?_ fun d10 d11 d12 => hk _ _ ⟨_, _, _, _, _, _, _, _, _, ?_, rfl⟩
    · have h1 := foundW_len ed (sd.take j) []
      have h2 : (sd.take j).length ≤ 40 := by rw [List.length_take]; omega
      have h3 := Nat.mul_le_mul h2 (show 4 + ([] : List Sd).length + (sd.take j).length ≤ 44 by simp only [List.length_nil]; omega)
      omega
    · rw [e, foundW_snoc, List.nil_append]
  · rintro ρ M' ⟨d7, d8, d9, d10, d11, d12, d13, d14, d15, rfl, rfl⟩
    rw [List.take_length]
    refine hC a _ _ _ _ _ _ _ _ _ _ _ _ _ _ um_same (fun x u hx => ?_) ha k
    rw [um_ne (fun z => by rw [z, ha] at hx; cases hx)]
    exact hx

/-! slabs and their pieces *)-/
abbrev Ed2 := Rat × Rat
def eE2 (e : Ed2) : D := .tup [eF e.1, eF e.2]
def eES (e : Ed2 × Int) : D := .tup [eE2 e.1, .int e.2]
abbrev Pc := Ed2 × Ed2 × Int
def ePc (p : Pc) : D := .tup [eE2 p.1, eE2 p.2.1, .int p.2.2]
abbrev Slab := Rat × Rat × List Pc
def eSlab (s : Slab) : D := .tup [eF s.1, eF s.2.1, .tup (s.2.2.map ePc)]
def edW (s : Pt × Pt) (l h : Rat) : Ed2 := (atW s l, atW s h)
theorem slop_mem {P : List (List Pt)} {s : Sd} (h : s ∈ slopW P) : s.1 ∈ sidesP P ∧ s.2 = sgnS s.1.1 s.1.2 ∧ s.1.1.2 ≠ s.1.2.2 := by
  unfold slopW at h
  obtain ⟨z, hz, rfl⟩ := List.mem_map.mp h
  obtain ⟨h1, h2⟩ := List.mem_filter.mp hz
  refine ⟨h1, rfl, fun e => ?_⟩
  have h3 : sgnS z.1 z.2 ≠ 0 := of_decide_eq_true h2
  apply h3
  have e' : z.1.2 = z.2.2 := e
  unfold sgnS
  rw [e']
  simp
theorem slop_pts {P : List (List Pt)} (hP : PathB P) : ∀ s, s ∈ slopW P → PtB s.1.1 ∧ PtB s.1.2 ∧ s.1.1.2 ≠ s.1.2.2 := fun s hs => by
  obtain ⟨h1, h2, h3⟩ := slop_mem hs
  obtain ⟨p1, p2⟩ := hP.side h1
  exact ⟨p1, p2, h3⟩
def g_heights_in : G := fun ds R E M => ∃ (P : List (List Pt)) (c r s i j : Int), ds = [ePath P, eI3 c r s, eI2 i j] ∧ (PathB P) ∧ ((slopW P).length ≤ 40) ∧ (CellOk c r s i j) ∧ (R (eFs (heightsW (slopW P) (j * s) (j * s + s) (some (i * s, i * s + s)))) M)
abbrev n_heights_in : List Str := ["path", "page", "cell", "left", "low", "right", "high"]
def tb_heights_in : DTS :=
  (dSeq (dAsg (.tp [(.nm 3), (.nm 4), (.nm 5), (.nm 6)]) (dCall g_cell_edges (dCons (dVar 1) (dCons (dVar 2) dNil))))
  (dRet (dCallN 4 0 [0, 1, 2, 3] [.non] g_heights_of (dCons (dCall g_sloped (dCons (dVar 0) dNil)) (dCons (dVar 4) (dCons (dVar 6) (dCons (dTup (dCons (dVar 3) (dCons (dVar 5) dNil))) dNil)))) dNil)))
theorem l_heights_in : ∀ ds R E M, g_heights_in ds R E M → ds.length = 3 := by
  rintro ds R E M ⟨_, _, _, _, _, _, rfl, -⟩; rfl
theorem u_heights_in {P : List (List Pt)} {c r s i j : Int} {R : PD} {E : Ex → MS → Prop} {M : MS} (hP : PathB P) (hl : (slopW P).length ≤ 40) (hc : CellOk c r s i j) (k : R (eFs (heightsW (slopW P) (j * s) (j * s + s) (some (i * s, i * s + s)))) M) : g_heights_in [ePath P, eI3 c r s, eI2 i j] R E M := ⟨_, _, _, _, _, _, rfl, hP, hl, hc, k⟩
theorem h_heights_in : Hg g_heights_in tb_heights_in n_heights_in := by
  rintro ds R E M ⟨P, c, r, s, i, j, rfl, hP, hl, hc, k⟩
  unfold tb_heights_in
  walk_at "dn"
  refine u_cell_edges hc ?_
  unfold eI4
  try walk_at "dn"
  refine u_sloped hP ?_
  try walk_at "dn"
  obtain ⟨b1, b3, b2, b4⟩ := cell_bd hc
  exact ⟨by decide, u_heights_of (ed := some (i * s, i * s + s)) ⟨hl, slop_pts hP⟩ b3 b4 ⟨b1, b2⟩ (Rw.of k)⟩

def pastW (e : Ed2) (l : Int) : Bool := decide (e.1 ≤ (l : Rat)) && decide (e.2 ≤ (l : Rat))
def beyW (e : Ed2) (r : Int) : Bool := decide ((r : Rat) ≤ e.1) && decide ((r : Rat) ≤ e.2)


def midW (e : Ed2) : Rat := e.1 + e.2
def posW (es : List (Ed2 × Int)) (m : Rat) : Nat → Nat
  | 0 => 0
  | n + 1 => match es[n]? with
    | some e => if m < midW e.1 then posW es m n else n + 1
    | none => n + 1
def putW (es : List (Ed2 × Int)) (x : Ed2 × Int) : List (Ed2 × Int) := es.take (posW es (midW x.1) es.length) ++ [x] ++ es.drop (posW es (midW x.1) es.length)
theorem posW_le (es : List (Ed2 × Int)) (m : Rat) : ∀ n, posW es m n ≤ n
  | 0 => Nat.le_refl _
  | n + 1 => by
    have := posW_le es m n
    unfold posW
    split
    · split <;> omega
    · omega


/-! neighbouring heights *)-/
def pairsW (hs : List Rat) : List (Rat × Rat) := hs.zip (hs.drop 1)
theorem pairsW_mem {hs : List Rat} {a b : Rat} (h : (a, b) ∈ pairsW hs) : a ∈ hs ∧ b ∈ hs := by
  have := List.of_mem_zip h
  exact ⟨this.1, List.mem_of_mem_drop this.2⟩
theorem pairsW_lt : ∀ {hs : List Rat}, Ris hs → ∀ {a b : Rat}, (a, b) ∈ pairsW hs → a < b
  | [], _, _, _, h => by cases h
  | [x], _, _, _, h => by cases h
  | x :: y :: hs, hr, a, b, h => by
    have h : (a, b) ∈ (x, y) :: pairsW (y :: hs) := h
    obtain ⟨h1, h2⟩ := List.pairwise_cons.mp hr
    rcases List.mem_cons.mp h with e | h
    · cases e
      exact h1 y (.head _)
    · exact pairsW_lt h2 h
theorem heights_sz {sd : List Sd} {lo hi : Int} {ed : Option (Int × Int)} (hs : SdB sd) (bl : Bd 20 lo) (bh : Bd 20 hi) (be : EdB ed) {q : Rat} (h : q ∈ heightsW sd lo hi ed) : Sz 100 q := by
  rcases List.mem_append.mp (risW_mem.mp h) with h | h
  · obtain ⟨o, ho, e⟩ := List.mem_filterMap.mp (List.mem_filter.mp h).1
    exact hts_sz hs be sd [] rfl q (by rw [← show o = some q from e]; exact ho)
  · simp only [List.mem_cons, List.not_mem_nil, or_false] at h
    rcases h with rfl | rfl
    · exact (sz_int' bl (by decide)).mono (by decide)
    · exact (sz_int' bh (by decide)).mono (by decide)

/-! the sides between two neighbouring heights *)-/
def kW (s : Pt × Pt) : Rat := ((s.2.1 - s.1.1 : Int) : Rat) / ((s.2.2 - s.1.2 : Int) : Rat)
theorem kW_mul {s : Pt × Pt} (hn : s.1.2 ≠ s.2.2) : kW s * ((s.2.2 - s.1.2 : Int) : Rat) = ((s.2.1 - s.1.1 : Int) : Rat) := by
  unfold kW
  exact Rat.div_mul_cancel fun e => by
    have := Rat.intCast_inj.mp (show ((s.2.2 - s.1.2 : Int) : Rat) = ((0 : Int) : Rat) from e)
    omega
theorem dy_ne {s : Pt × Pt} (hn : s.1.2 ≠ s.2.2) : ((s.2.2 - s.1.2 : Int) : Rat) ≠ 0 := fun e => by
  have := Rat.intCast_inj.mp (show ((s.2.2 - s.1.2 : Int) : Rat) = ((0 : Int) : Rat) from e)
  omega
theorem divI {a b : Int} : Rat.divInt a b = (a : Rat) / (b : Rat) := Rat.divInt_eq_div a b
theorem atW_eq {s : Pt × Pt} {y : Rat} (hn : s.1.2 ≠ s.2.2) : atW s y = (s.1.1 : Rat) + kW s * (y - (s.1.2 : Rat)) := by
  unfold atW atX
  rw [divI]
  congr 1
  have hd : (y.den : Rat) ≠ 0 := by
    have := y.den_pos
    exact_mod_cast (show y.den ≠ 0 by omega)
  have e1 : (((s.2.1 - s.1.1) * (y.num - s.1.2 * y.den) : Int) : Rat) = ((s.2.1 - s.1.1 : Int) : Rat) * ((y - (s.1.2 : Rat)) * (y.den : Rat)) := by
    have : y * (y.den : Rat) = (y.num : Rat) := by
      have h := self_eq y
      rw [divI] at h
      have h2 : (y.num : Rat) / ((y.den : Int) : Rat) * ((y.den : Int) : Rat) = y.num := Rat.div_mul_cancel (by exact_mod_cast hd)
      rw [h] at h2
      exact_mod_cast h2
    push_cast
    grind
  have e2 : (((s.2.2 - s.1.2) * y.den : Int) : Rat) = ((s.2.2 - s.1.2 : Int) : Rat) * (y.den : Rat) := by push_cast; rfl
  rw [e1, e2, Rat.div_def]
  have h1 := dy_ne hn
  have h2 := kW_mul hn
  generalize ((s.2.1 - s.1.1 : Int) : Rat) = dx at *
  generalize ((s.2.2 - s.1.2 : Int) : Rat) = dy at *
  generalize (y.den : Rat) = d at *
  generalize kW s = k at *
  have hi : (dy * d) * (dy * d)⁻¹ = 1 := Rat.mul_inv_cancel _ (by grind)
  generalize (dy * d)⁻¹ = z at *
  grind
theorem mnY_le {s : Pt × Pt} : ((mnY s : Int) : Rat) ≤ (s.1.2 : Rat) ∧ ((mnY s : Int) : Rat) ≤ (s.2.2 : Rat) ∧ (s.1.2 : Rat) ≤ ((mxY s : Int) : Rat) ∧ (s.2.2 : Rat) ≤ ((mxY s : Int) : Rat) := by
  refine ⟨?_, ?_, ?_, ?_⟩ <;> (refine Rat.intCast_le_intCast.mpr ?_) <;> simp only [mnY, mxY, mnI, mxI] <;> split <;> omega
theorem mnY_or {s : Pt × Pt} : (((mnY s : Int) : Rat) = (s.1.2 : Rat) ∧ ((mxY s : Int) : Rat) = (s.2.2 : Rat)) ∨ (((mnY s : Int) : Rat) = (s.2.2 : Rat) ∧ ((mxY s : Int) : Rat) = (s.1.2 : Rat)) := by
  unfold mnY mxY mnI mxI
  rcases (show s.1.2 < s.2.2 ∨ s.1.2 = s.2.2 ∨ s.2.2 < s.1.2 by omega) with c | c | c
  · left; rw [if_neg (by omega), if_pos c]; exact ⟨rfl, rfl⟩
  · left; rw [if_neg (by omega), if_neg (by omega), c]; exact ⟨rfl, rfl⟩
  · right; rw [if_pos c, if_neg (by omega)]; exact ⟨rfl, rfl⟩
/-- at a height that the side has, it meets x there, where it turns *)-/
theorem meet_at {s : Pt × Pt} {x : Int} {y : Rat} (hn : s.1.2 ≠ s.2.2) (h1 : ((mnY s : Int) : Rat) ≤ y) (h2 : y ≤ ((mxY s : Int) : Rat)) (hx : atW s y = (x : Rat)) (hk : kW s ≠ 0) : meetW s x = some y := by
  have hm := kW_mul hn
  have hd := dy_ne hn
  rw [atW_eq hn] at hx
  have hdx : s.1.1 ≠ s.2.1 := fun e => by
    have : ((s.2.1 - s.1.1 : Int) : Rat) = 0 := by rw [e, Int.sub_self]; rfl
    rw [this] at hm
    rcases Rat.mul_eq_zero.mp hm with z | z
    · exact hk z
    · exact hd z
  have hdx' : ((s.2.1 - s.1.1 : Int) : Rat) ≠ 0 := fun e => by
    have := Rat.intCast_inj.mp (show ((s.2.1 - s.1.1 : Int) : Rat) = ((0 : Int) : Rat) from e)
    omega
  have bnd : ((s.1.1 : Rat) ≤ x ∧ (x : Rat) ≤ s.2.1) ∨ ((s.2.1 : Rat) ≤ x ∧ (x : Rat) ≤ s.1.1) := by
    have e3 : ((s.2.1 - s.1.1 : Int) : Rat) = (s.2.1 : Rat) - (s.1.1 : Rat) := Rat.intCast_sub ..
    have e4 : ((s.2.2 - s.1.2 : Int) : Rat) = (s.2.2 : Rat) - (s.1.2 : Rat) := Rat.intCast_sub ..
    rw [e3, e4] at hm
    generalize (s.1.1 : Rat) = ax at *
    generalize (s.2.1 : Rat) = bx at *
    generalize kW s = k at *
    rcases mnY_or (s := s) with ⟨a1, a2⟩ | ⟨a1, a2⟩ <;> rw [a1] at h1 <;> rw [a2] at h2 <;> generalize (s.1.2 : Rat) = ay at * <;> generalize (s.2.2 : Rat) = by' at *
    · rcases (show 0 ≤ k ∨ k ≤ 0 by grind) with c | c
      · have m1 := Rat.mul_nonneg c (show 0 ≤ y - ay by grind)
        have m2 := Rat.mul_nonneg c (show 0 ≤ by' - y by grind)
        left; grind
      · have m1 := Rat.mul_nonneg (show 0 ≤ -k by grind) (show 0 ≤ y - ay by grind)
        have m2 := Rat.mul_nonneg (show 0 ≤ -k by grind) (show 0 ≤ by' - y by grind)
        right; grind
    · rcases (show 0 ≤ k ∨ k ≤ 0 by grind) with c | c
      · have m1 := Rat.mul_nonneg c (show 0 ≤ ay - y by grind)
        have m2 := Rat.mul_nonneg c (show 0 ≤ y - by' by grind)
        right; grind
      · have m1 := Rat.mul_nonneg (show 0 ≤ -k by grind) (show 0 ≤ ay - y by grind)
        have m2 := Rat.mul_nonneg (show 0 ≤ -k by grind) (show 0 ≤ y - by' by grind)
        left; grind
  have b1 : mnI s.1.1 s.2.1 ≤ x ∧ x ≤ mxI s.1.1 s.2.1 := by
    rcases bnd with ⟨c, d⟩ | ⟨c, d⟩ <;> have c' := Rat.intCast_le_intCast.mp c <;> have d' := Rat.intCast_le_intCast.mp d <;> unfold mnI mxI <;> constructor <;> split <;> omega
  unfold meetW
  rw [if_neg hdx, if_pos b1, divI]
  congr 1
  have e5 : (((x - s.1.1) * (s.2.2 - s.1.2) + s.1.2 * (s.2.1 - s.1.1) : Int) : Rat) = ((x : Rat) - (s.1.1 : Rat)) * ((s.2.2 - s.1.2 : Int) : Rat) + (s.1.2 : Rat) * ((s.2.1 - s.1.1 : Int) : Rat) := by push_cast; rfl
  rw [e5, Rat.div_def]
  have hi : ((s.2.1 - s.1.1 : Int) : Rat) * ((s.2.1 - s.1.1 : Int) : Rat)⁻¹ = 1 := Rat.mul_inv_cancel _ hdx'
  generalize ((s.2.1 - s.1.1 : Int) : Rat)⁻¹ = z at *
  generalize ((s.2.1 - s.1.1 : Int) : Rat) = dx at *
  generalize ((s.2.2 - s.1.2 : Int) : Rat) = dy at *
  generalize kW s = k at *
  grind
theorem cross_at {s t : Pt × Pt} {y : Rat} (hs : s.1.2 ≠ s.2.2) (ht : t.1.2 ≠ t.2.2) (h1 : thruW s y y) (h2 : thruW t y y) (hx : atW s y = atW t y) (hk : kW s ≠ kW t) : crossW s t = some y := by
  have hm := kW_mul hs
  have hd := dy_ne hs
  have gm := kW_mul ht
  have gd := dy_ne ht
  rw [atW_eq hs, atW_eq ht] at hx
  have e1 : ((downW s t : Int) : Rat) = ((s.2.1 - s.1.1 : Int) : Rat) * ((t.2.2 - t.1.2 : Int) : Rat) - ((t.2.1 - t.1.1 : Int) : Rat) * ((s.2.2 - s.1.2 : Int) : Rat) := by unfold downW; push_cast; rfl
  have e2 : ((upW s t : Int) : Rat) = ((t.1.1 : Rat) - (s.1.1 : Rat)) * ((s.2.2 - s.1.2 : Int) : Rat) * ((t.2.2 - t.1.2 : Int) : Rat) + (s.1.2 : Rat) * ((s.2.1 - s.1.1 : Int) : Rat) * ((t.2.2 - t.1.2 : Int) : Rat) - (t.1.2 : Rat) * ((t.2.1 - t.1.1 : Int) : Rat) * ((s.2.2 - s.1.2 : Int) : Rat) := by unfold upW; push_cast; rfl
  have hne : ((downW s t : Int) : Rat) ≠ 0 := by
    rw [e1, ← hm, ← gm]
    generalize ((s.2.2 - s.1.2 : Int) : Rat) = p at *
    generalize ((t.2.2 - t.1.2 : Int) : Rat) = q at *
    generalize kW s = k at *
    generalize kW t = k' at *
    intro z
    have : (k - k') * (p * q) = 0 := by grind
    rcases Rat.mul_eq_zero.mp this with z | z
    · grind
    · rcases Rat.mul_eq_zero.mp z with z | z
      · exact hd z
      · exact gd z
  have hv : Rat.divInt (upW s t) (downW s t) = y := by
    rw [divI, Rat.div_def]
    have hi : ((downW s t : Int) : Rat) * ((downW s t : Int) : Rat)⁻¹ = 1 := Rat.mul_inv_cancel _ hne
    have key : ((upW s t : Int) : Rat) = y * ((downW s t : Int) : Rat) := by
      rw [e1, e2, ← hm, ← gm]
      generalize ((s.2.2 - s.1.2 : Int) : Rat) = p at *
      generalize ((t.2.2 - t.1.2 : Int) : Rat) = q at *
      generalize kW s = k at *
      generalize kW t = k' at *
      clear hi hne e1 e2 hm gm hd gd h1 h2
      have : ((t.1.1 : Rat) - s.1.1) * p * q = (k * (y - (s.1.2 : Rat)) - k' * (y - (t.1.2 : Rat))) * p * q := by
        rw [show (t.1.1 : Rat) - s.1.1 = k * (y - (s.1.2 : Rat)) - k' * (y - (t.1.2 : Rat)) by grind]
      grind
    rw [key]
    generalize ((downW s t : Int) : Rat)⁻¹ = z at *
    grind
  unfold crossW
  rw [hv, if_neg (fun z => hne (by rw [z]; rfl)), if_pos ⟨h1, h2⟩]

/-! between two neighbouring heights nothing turns *)-/
theorem pairsW_no : ∀ {hs : List Rat}, Ris hs → ∀ {a b y : Rat}, (a, b) ∈ pairsW hs → y ∈ hs → a < y → y < b → False
  | [], _, _, _, _, h, _, _, _ => by cases h
  | [x], _, _, _, _, h, _, _, _ => by cases h
  | x :: z :: hs, hr, a, b, y, h, hy, h1, h2 => by
    have h : (a, b) ∈ (x, z) :: pairsW (z :: hs) := h
    obtain ⟨r1, r2⟩ := List.pairwise_cons.mp hr
    rcases List.mem_cons.mp h with e | h
    · cases e
      rcases List.mem_cons.mp hy with e | hy
      · grind
      · rcases List.mem_cons.mp hy with e | hy
        · grind
        · have := (List.pairwise_cons.mp r2).1 y hy; grind
    · rcases List.mem_cons.mp hy with e | hy
      · have := r1 a (pairsW_mem h).1; grind
      · exact pairsW_no r2 h hy h1 h2
theorem hts_mem {sd : List Sd} {lo hi : Int} {ed : Option (Int × Int)} (hlh : lo ≤ hi) {y : Rat} (h : y ∈ heightsW sd lo hi ed) : (lo : Rat) ≤ y ∧ y ≤ (hi : Rat) := by
  have c : (lo : Rat) ≤ (hi : Rat) := Rat.intCast_le_intCast.mpr hlh
  rcases List.mem_append.mp (risW_mem.mp h) with h | h
  · have := of_decide_eq_true (List.mem_filter.mp h).2
    grind
  · simp only [List.mem_cons, List.not_mem_nil, or_false] at h
    grind
theorem hts_no {sd : List Sd} {lo hi : Int} {ed : Option (Int × Int)} (hlh : lo ≤ hi) {a b y : Rat} (h : (a, b) ∈ pairsW (heightsW sd lo hi ed)) (hy : some y ∈ foundW ed [] sd) (h1 : a < y) (h2 : y < b) : False := by
  obtain ⟨m1, m2⟩ := pairsW_mem h
  have b1 := hts_mem hlh m1
  have b2 := hts_mem hlh m2
  refine pairsW_no (risW_ris _) h (risW_mem.mpr (List.mem_append_left _ (List.mem_filter.mpr ⟨List.mem_filterMap.mpr ⟨_, hy, rfl⟩, decide_eq_true ⟨by grind, by grind⟩⟩))) h1 h2
theorem found_own {ed : Option (Int × Int)} {q : Option Rat} {s : Sd} : ∀ {suf pre : List Sd} {A B : List Sd}, suf = A ++ s :: B → q ∈ fOf ed s.1 (pre ++ A) → q ∈ foundW ed pre suf
  | [], _, A, B, e, _ => by cases A <;> cases e
  | x :: suf, pre, A, B, e, h => by
    unfold foundW
    cases A with
    | nil =>
      cases e
      rw [List.append_nil] at h
      exact List.mem_append_left _ h
    | cons z A =>
      cases e
      refine List.mem_append_right _ (found_own (A := A) (B := B) rfl ?_)
      rw [List.append_assoc]
      exact h
theorem found_ends {ed : Option (Int × Int)} {sd : List Sd} {s : Sd} (h : s ∈ sd) : some ((mnY s.1 : Int) : Rat) ∈ foundW ed [] sd ∧ some ((mxY s.1 : Int) : Rat) ∈ foundW ed [] sd := by
  obtain ⟨A, B, e⟩ := List.append_of_mem h
  exact ⟨found_own e (by unfold fOf; simp), found_own e (by unfold fOf; simp)⟩
theorem found_meet {l r : Int} {sd : List Sd} {s : Sd} (h : s ∈ sd) : meetW s.1 l ∈ foundW (some (l, r)) [] sd ∧ meetW s.1 r ∈ foundW (some (l, r)) [] sd := by
  obtain ⟨A, B, e⟩ := List.append_of_mem h
  exact ⟨found_own e (by unfold fOf meetsA; simp), found_own e (by unfold fOf meetsA; simp)⟩
theorem found_cross {ed : Option (Int × Int)} {sd : List Sd} {s t : Sd} {y : Rat} (hs : s ∈ sd) (ht : t ∈ sd) (hne : s ≠ t) (h1 : crossW s.1 t.1 = some y) (h2 : crossW t.1 s.1 = some y) (a1 : accW ed s.1 y = true) (a2 : accW ed t.1 y = true) : some y ∈ foundW ed [] sd := by
  obtain ⟨A, B, e⟩ := List.append_of_mem hs
  have ht' : t ∈ A ∨ t ∈ B := by
    rw [e] at ht
    rcases List.mem_append.mp ht with h | h
    · exact .inl h
    · rcases List.mem_cons.mp h with h | h
      · exact absurd h.symm hne
      · exact .inr h
  rcases ht' with h | h
  · refine found_own e (List.mem_append_right _ (List.mem_flatMap.mpr ⟨t, h, ?_⟩))
    unfold crossA
    rw [h1]
    simp only [a1, if_true, List.mem_singleton]
  · obtain ⟨C, E, e2⟩ := List.append_of_mem h
    have e3 : sd = (A ++ s :: C) ++ t :: E := by rw [e, e2]; simp
    refine found_own e3 (List.mem_append_right _ (List.mem_flatMap.mpr ⟨s, by simp, ?_⟩))
    unfold crossA
    rw [h2]
    simp only [a2, if_true, List.mem_singleton]
section
variable {sd : List Sd} {lo hi : Int} {ed : Option (Int × Int)} {a b : Rat}
/-- between two heights nothing turns: no side ends, none meets an edge of the cell, no two cross *)-/
structure Clear (sd : List Sd) (ed : Option (Int × Int)) (a b : Rat) : Prop where
  lt : a < b
  lo : ∀ s, s ∈ sd → a < ((mnY s.1 : Int) : Rat) → ((mnY s.1 : Int) : Rat) < b → False
  hi : ∀ s, s ∈ sd → a < ((mxY s.1 : Int) : Rat) → ((mxY s.1 : Int) : Rat) < b → False
  meet : ∀ e, ed = some e → ∀ s, s ∈ sd → ∀ y, (meetW s.1 e.1 = some y ∨ meetW s.1 e.2 = some y) → a < y → y < b → False
  cross : ∀ s t, s ∈ sd → t ∈ sd → s ≠ t → ∀ y, crossW s.1 t.1 = some y → crossW t.1 s.1 = some y → accW ed s.1 y = true → accW ed t.1 y = true → a < y → y < b → False
theorem clear_hts (hlh : lo ≤ hi) (h : (a, b) ∈ pairsW (heightsW sd lo hi ed)) : Clear sd ed a b where
  lt := pairsW_lt (risW_ris _) h
  lo := fun s hs => hts_no hlh h (found_ends (ed := ed) hs).1
  hi := fun s hs => hts_no hlh h (found_ends (ed := ed) hs).2
  meet := fun e he s hs y hy => by
    subst he
    obtain ⟨f1, f2⟩ := found_meet (l := e.1) (r := e.2) hs
    rcases hy with hy | hy
    · rw [hy] at f1; exact hts_no hlh h f1
    · rw [hy] at f2; exact hts_no hlh h f2
  cross := fun s t hs ht hne y h1 h2 a1 a2 => hts_no hlh h (found_cross hs ht hne h1 h2 a1 a2)
/-- a side has all of the slab's heights, or none *)-/
theorem thru_or (C : Clear sd ed a b) {s : Sd} (hs : s ∈ sd) : thruW s.1 a b ∨ ((mxY s.1 : Int) : Rat) ≤ a ∨ b ≤ ((mnY s.1 : Int) : Rat) := by
  have n1 := C.lo s hs
  have n2 := C.hi s hs
  have : ((mnY s.1 : Int) : Rat) ≤ a ∨ b ≤ ((mnY s.1 : Int) : Rat) := by
    rcases (show ((mnY s.1 : Int) : Rat) ≤ a ∨ a < ((mnY s.1 : Int) : Rat) by grind) with c | c
    · exact .inl c
    · rcases (show ((mnY s.1 : Int) : Rat) < b ∨ b ≤ ((mnY s.1 : Int) : Rat) by grind) with d | d
      · exact (n1 c d).elim
      · exact .inr d
  have : ((mxY s.1 : Int) : Rat) ≤ a ∨ b ≤ ((mxY s.1 : Int) : Rat) := by
    rcases (show ((mxY s.1 : Int) : Rat) ≤ a ∨ a < ((mxY s.1 : Int) : Rat) by grind) with c | c
    · exact .inl c
    · rcases (show ((mxY s.1 : Int) : Rat) < b ∨ b ≤ ((mxY s.1 : Int) : Rat) by grind) with d | d
      · exact (n2 c d).elim
      · exact .inr d
  unfold thruW
  grind
theorem lin_zero {k c a b : Rat} (h1 : k * a + c < 0) (h2 : 0 < k * b + c) (hab : a < b) : k ≠ 0 ∧ ∃ y, a < y ∧ y < b ∧ k * y + c = 0 := by
  have hk : k ≠ 0 := fun z => by rw [z] at h1 h2; grind
  have kp : 0 < k := by
    rcases (show 0 < k ∨ k ≤ 0 by grind) with d | d
    · exact d
    · have := Rat.mul_nonneg (show 0 ≤ -k by grind) (show 0 ≤ b - a by grind); grind
  refine ⟨hk, -c / k, ?_, ?_, ?_⟩
  · have e : -c / k * k = -c := Rat.div_mul_cancel hk
    rcases (show a < -c / k ∨ -c / k ≤ a by grind) with d | d
    · exact d
    · have := Rat.mul_nonneg (show 0 ≤ k by grind) (show 0 ≤ a - -c / k by grind); grind
  · have e : -c / k * k = -c := Rat.div_mul_cancel hk
    rcases (show -c / k < b ∨ b ≤ -c / k by grind) with d | d
    · exact d
    · have := Rat.mul_nonneg (show 0 ≤ k by grind) (show 0 ≤ -c / k - b by grind); grind
  · have e : -c / k * k = -c := Rat.div_mul_cancel hk
    grind
/-- .. and lies at one hand of the cell's edges *)-/
theorem hand_one {l r x : Int} (C : Clear sd (some (l, r)) a b) (hx : x = l ∨ x = r) {s : Sd} (hs : s ∈ sd) (hn : s.1.1.2 ≠ s.1.2.2) (ht : thruW s.1 a b) :
    (atW s.1 a ≤ x ∧ atW s.1 b ≤ x) ∨ ((x : Rat) ≤ atW s.1 a ∧ (x : Rat) ≤ atW s.1 b) := by
  have hab := C.lt
  have no : ∀ y, a < y → y < b → atW s.1 y = x → kW s.1 ≠ 0 → False := fun y y1 y2 y3 y4 => by
    have m := meet_at hn (show ((mnY s.1 : Int) : Rat) ≤ y by have := ht.1; grind) (by have := ht.2; grind) y3 y4
    rcases hx with rfl | rfl
    · exact C.meet _ rfl s hs y (.inl m) y1 y2
    · exact C.meet _ rfl s hs y (.inr m) y1 y2
  rcases (show (atW s.1 a ≤ x ∧ atW s.1 b ≤ x) ∨ ((x : Rat) ≤ atW s.1 a ∧ (x : Rat) ≤ atW s.1 b) ∨ (atW s.1 a < x ∧ (x : Rat) < atW s.1 b) ∨ ((x : Rat) < atW s.1 a ∧ atW s.1 b < x) by grind) with c | c | c | c
  · exact .inl c
  · exact .inr c
  · exfalso
    rw [atW_eq hn, atW_eq hn] at c
    obtain ⟨k0, y, y1, y2, y3⟩ := lin_zero (k := kW s.1) (c := (s.1.1.1 : Rat) - kW s.1 * s.1.1.2 - x) (a := a) (b := b) (by grind) (by grind) hab
    exact no y y1 y2 (by rw [atW_eq hn]; grind) k0
  · exfalso
    rw [atW_eq hn, atW_eq hn] at c
    obtain ⟨k0, y, y1, y2, y3⟩ := lin_zero (k := -kW s.1) (c := -((s.1.1.1 : Rat) - kW s.1 * s.1.1.2 - x)) (a := a) (b := b) (by grind) (by grind) hab
    exact no y y1 y2 (by rw [atW_eq hn]; grind) (by grind)
/-- .. and two within the cell change no places *)-/
theorem order_one (C : Clear sd ed a b) {s t : Sd} (hs : s ∈ sd) (ht : t ∈ sd) (hn : s.1.1.2 ≠ s.1.2.2) (gn : t.1.1.2 ≠ t.1.2.2) (h1 : thruW s.1 a b) (h2 : thruW t.1 a b)
    (acc : ∀ y, a < y → y < b → accW ed s.1 y = true ∧ accW ed t.1 y = true) :
    (atW s.1 a ≤ atW t.1 a ∧ atW s.1 b ≤ atW t.1 b) ∨ (atW t.1 a ≤ atW s.1 a ∧ atW t.1 b ≤ atW s.1 b) := by
  have hab := C.lt
  have no : ∀ y, a < y → y < b → atW s.1 y = atW t.1 y → kW s.1 ≠ kW t.1 → False := fun y y1 y2 y3 y4 => by
    have hne : s ≠ t := fun z => y4 (by rw [z])
    have p1 : thruW s.1 y y := ⟨by have := h1.1; grind, by have := h1.2; grind⟩
    have p2 : thruW t.1 y y := ⟨by have := h2.1; grind, by have := h2.2; grind⟩
    obtain ⟨a1, a2⟩ := acc y y1 y2
    exact C.cross s t hs ht hne y (cross_at hn gn p1 p2 y3 y4) (cross_at gn hn p2 p1 y3.symm (Ne.symm y4)) a1 a2 y1 y2
  rcases (show (atW s.1 a ≤ atW t.1 a ∧ atW s.1 b ≤ atW t.1 b) ∨ (atW t.1 a ≤ atW s.1 a ∧ atW t.1 b ≤ atW s.1 b) ∨ (atW s.1 a < atW t.1 a ∧ atW t.1 b < atW s.1 b) ∨ (atW t.1 a < atW s.1 a ∧ atW s.1 b < atW t.1 b) by grind) with c | c | c | c
  · exact .inl c
  · exact .inr c
  · exfalso
    rw [atW_eq hn, atW_eq hn, atW_eq gn, atW_eq gn] at c
    obtain ⟨k0, y, y1, y2, y3⟩ := lin_zero (k := kW s.1 - kW t.1) (c := (s.1.1.1 : Rat) - kW s.1 * s.1.1.2 - (t.1.1.1 - kW t.1 * t.1.1.2)) (a := a) (b := b) (by grind) (by grind) hab
    exact no y y1 y2 (by rw [atW_eq hn, atW_eq gn]; grind) (by grind)
  · exfalso
    rw [atW_eq hn, atW_eq hn, atW_eq gn, atW_eq gn] at c
    obtain ⟨k0, y, y1, y2, y3⟩ := lin_zero (k := kW t.1 - kW s.1) (c := (t.1.1.1 : Rat) - kW t.1 * t.1.1.2 - (s.1.1.1 - kW s.1 * s.1.1.2)) (a := a) (b := b) (by grind) (by grind) hab
    exact no y y1 y2 (by rw [atW_eq hn, atW_eq gn]; grind) (by grind)
end

/-! the first and the last of the heights *)-/
theorem ris_head {x : Rat} : ∀ {hs : List Rat}, Ris hs → x ∈ hs → (∀ y, y ∈ hs → x ≤ y) → hs.head? = some x
  | [], _, h, _ => by cases h
  | z :: hs, hr, h, hl => by
    rcases List.mem_cons.mp h with e | h
    · rw [e]; rfl
    · have := (List.pairwise_cons.mp hr).1 x h
      have := hl z (.head _)
      grind
theorem ris_last {x : Rat} : ∀ {hs : List Rat}, Ris hs → x ∈ hs → (∀ y, y ∈ hs → y ≤ x) → hs.getLast? = some x
  | [], _, h, _ => by cases h
  | [z], _, h, _ => by rw [List.mem_singleton.mp h]; rfl
  | z :: t :: hs, hr, h, hl => by
    rw [List.getLast?_cons_cons]
    obtain ⟨r1, r2⟩ := List.pairwise_cons.mp hr
    refine ris_last r2 ?_ fun y hy => hl y (.tail _ hy)
    rcases List.mem_cons.mp h with e | h
    · have := r1 t (.head _)
      have := hl t (.tail _ (.head _))
      grind
    · exact h
theorem hts_head {sd : List Sd} {lo hi : Int} {ed : Option (Int × Int)} (hlh : lo ≤ hi) : (heightsW sd lo hi ed).head? = some (lo : Rat) :=
  ris_head (risW_ris _) (risW_mem.mpr (List.mem_append_right _ (by simp))) fun _ hy => (hts_mem hlh hy).1
theorem hts_last {sd : List Sd} {lo hi : Int} {ed : Option (Int × Int)} (hlh : lo ≤ hi) : (heightsW sd lo hi ed).getLast? = some (hi : Rat) :=
  ris_last (risW_ris _) (risW_mem.mpr (List.mem_append_right _ (by simp))) fun _ hy => (hts_mem hlh hy).2

/-! the tape of the laws of areas, and its draws -/
def feedO (cs : List Int) (i l c : Int) : MO := .lst [.lst (cs.map D.int), .int i, .int l, .int c]
/-- a tape with at least b draws left -/
def FdO (o : MO) (b : Nat) : Prop := ∃ cs i l c, o = feedO cs i l c ∧ (0 ≤ i ∧ 0 ≤ c) ∧ c + b ≤ 1099511627776
theorem FdO.mono {o : MO} {b c : Nat} (h : FdO o b) (k : c ≤ b) : FdO o c := by
  obtain ⟨cs, i, l, d, e, h1, h2⟩ := h
  exact ⟨cs, i, l, d, e, h1, by omega⟩
def Feed (M : MS) (a : Addr) (b : Nat) : Prop := ∃ o, M a = some o ∧ FdO o b
theorem Feed.mono {M : MS} {a : Addr} {b c : Nat} (h : Feed M a b) (k : c ≤ b) : Feed M a c := by
  obtain ⟨o, e, f⟩ := h
  exact ⟨o, e, f.mono k⟩
theorem Feed.um {M : MS} {a : Addr} {b : Nat} {o : MO} (h : FdO o b) : Feed (um M a o) a b := ⟨o, um_same, h⟩

def g__law_tape : G := fun ds R E M => ∃ (ns : List Int), ds = [.scr ns] ∧ (∀ a o, M a = none → FdO o 1000000000000 → R (.ref a) (um M a o))
abbrev n__law_tape : List Str := ["script"]
def tb__law_tape : DTS :=
  (dRet (dLstN (dCons (dSl (dVar 0) dNoPart (dPart (dC (.int 63)))) (dCons (dC (.int 0)) (dCons (dC (.int 0)) (dCons (dC (.int 0)) dNil))))))
theorem l__law_tape : ∀ ds R E M, g__law_tape ds R E M → ds.length = 1 := by
  rintro ds R E M ⟨_, rfl, -⟩; rfl
theorem u__law_tape {ns : List Int} {R : PD} {E : Ex → MS → Prop} {M : MS}  (k : ∀ a o, M a = none → FdO o 1000000000000 → R (.ref a) (um M a o)) : g__law_tape [.scr ns] R E M := ⟨_, rfl, k⟩
theorem h__law_tape : Hg g__law_tape tb__law_tape n__law_tape := by
  rintro ds R E M ⟨ns, rfl, k⟩
  unfold tb__law_tape
  walk_at "dn"
  refine ⟨by decide, fun p hp => ?_⟩
  exact Rw.of (k p _ hp ⟨_, 0, 0, 0, rfl, by decide, by decide⟩)
def g__law_draw : G := fun ds R E M => ∃ (a : Addr) (n : Int) (b : Nat), ds = [.ref a, .int n] ∧ (0 < n ∧ n ≤ 1000000) ∧ (Feed M a (b + 1)) ∧ (∀ r o, 0 ≤ r → r < n → FdO o b → R (.int r) (um M a o))
abbrev n__law_draw : List Str := ["tape", "many", "turn", "at", "cell", "mixed", "digit"]
def tb__law_draw_c6 : DTS :=
  (dSeq (dIfS (dAnd (dTst (dOp geD (dVar 4) (dOp powD (dC (.int 10)) (dC (.int 18))))) (dTst (dOp ltD (dVar 3) (dCB lenD (dCons (dIx (dVar 0) (dC (.int 0))) dNil))))) (dSeq (dSub (dOp fdivD (dVar 4) (dVar 1)) (dVar 0) (dC (.int 2)))
  (dRet (dOp modD (dVar 4) (dVar 1)))) dNext)
  (dSeq (dSet 5 (dOp modD (dOp powD (dOp addD (dOp addD (dOp modD (dVar 4) (dC (.int 1000037))) (dOp mulD (dC (.int 6029)) (dVar 2))) (dC (.int 41))) (dC (.int 5))) (dC (.int 2147483647))))
  (dRet (dOp modD (dOp fdivD (dOp modD (dOp powD (dOp addD (dVar 5) (dOp mulD (dC (.int 60017)) (dVar 2))) (dC (.int 5))) (dC (.int 2147483587))) (dC (.int 64))) (dVar 1)))))
def tb__law_draw : DTS :=
  (dSeq (dSet 2 (dOp addD (dIx (dVar 0) (dC (.int 3))) (dC (.int 1))))
  (dSeq (dSub (dVar 2) (dVar 0) (dC (.int 3)))
  (dSeq (dIfS (dTst (dOp gtD (dIx (dVar 0) (dC (.int 2))) (dC (.int 0)))) (dSeq (dSet 6 (dOp modD (dIx (dVar 0) (dC (.int 2))) (dVar 1)))
  (dSeq (dSub (dOp fdivD (dIx (dVar 0) (dC (.int 2))) (dVar 1)) (dVar 0) (dC (.int 2)))
  (dRet (dVar 6)))) dNext)
  (dSeq (dSet 3 (dIx (dVar 0) (dC (.int 1))))
  (dSeq (dSub (dOp addD (dVar 3) (dC (.int 1))) (dVar 0) (dC (.int 1)))
  (dSeq (dSet 4 (dIf (dTst (dOp (eqD fun k => !k) (dIx (dVar 0) (dC (.int 0))) (dLst dNil))) (dIx (dIx (dVar 0) (dC (.int 0))) (dOp modD (dVar 3) (dCB lenD (dCons (dIx (dVar 0) (dC (.int 0))) dNil)))) (dC (.int 7))))
  tb__law_draw_c6))))))
theorem l__law_draw : ∀ ds R E M, g__law_draw ds R E M → ds.length = 2 := by
  rintro ds R E M ⟨_, _, _, rfl, -⟩; rfl
theorem u__law_draw {a : Addr} {n : Int} {b : Nat} {R : PD} {E : Ex → MS → Prop} {M : MS} (hn : 0 < n ∧ n ≤ 1000000) (hf : Feed M a (b + 1)) (k : ∀ r o, 0 ≤ r → r < n → FdO o b → R (.int r) (um M a o)) : g__law_draw [.ref a, .int n] R E M := ⟨_, _, _, rfl, hn, hf, k⟩
theorem feed_next {R : PD} {M : MS} {a : Addr} {b : Nat} {r n : Int} {cs : List Int} {i l c : Int} (k : ∀ r o, 0 ≤ r → r < n → FdO o b → R (.int r) (um M a o)) (hr : 0 ≤ r ∧ r < n) (hi : 0 ≤ i) (hc : 0 ≤ c) (hb : c + b ≤ 1099511627776) :
    Rw R (.int r) (um M a (.lst [.lst (cs.map D.int), .int i, .int l, .int c])) := Rw.of (k r _ hr.1 hr.2 ⟨cs, i, l, c, rfl, ⟨hi, hc⟩, hb⟩)
theorem draw_tail {R : PD} {RE : Ex → MS → Prop} {M : MS} {a : Addr} {b : Nat} {n cell at' : Int} {cs : List Int} {l c : Int} (hn : 0 < n ∧ n ≤ 1000000) (ha : 0 ≤ at') (hc : 0 ≤ c) (hb : c + b ≤ 1099511627776)
    (k : ∀ r o, 0 ≤ r → r < n → FdO o b → R (.int r) (um M a o)) :
    tb__law_draw_c6 (ends R RE) [some (.ref a), some (.int n), some (.int c), some (.int at'), some (.int cell), none, none] (um M a (.lst [.lst (cs.map D.int), .int (at' + 1), .int l, .int c])) := by
  have hn0 : n ≠ 0 := by omega
  have hm : ∀ x k : Int, 0 ≤ k → k < 1000000 → 0 ≤ x → x ≤ 1099511627776 → CMulX k x := fun x k h1 h2 h3 h4 => mul_ok (a := 20) (b := 41) (by omega) (by omega) (by decide) (by decide) (by decide)
  have hp : CPow 10 18 := ⟨by decide, by decide, by decide⟩
  have h1 := fmod_nn (i := cell) (n := 1000037) (by decide)
  have h2 := fmod_nn (i := (Int.fmod cell 1000037 + 6029 * c + 41) ^ Int.toNat 5) (n := 2147483647) (by decide)
  unfold tb__law_draw_c6
  walk_at "dd"
  refine ⟨hp, ?_⟩
  have fin := feed_next (cs := cs) (i := at' + 1) (l := l) k (fmod_nn (i := (((Int.fmod ((Int.fmod cell 1000037 + 6029 * c + 41) ^ Int.toNat 5) 2147483647 + 60017 * c) ^ Int.toNat 5).fmod 2147483587).fdiv 64) hn.1) (by omega) hc hb
  split
  · split
    · exact ⟨cds hn0 (by omega), hn0, feed_next k (fmod_nn hn.1) (by omega) hc hb⟩
    · exact ⟨by decide, hm _ _ (by decide) (by decide) hc (by omega), ⟨by decide, by decide, by omega⟩, by decide, hm _ _ (by decide) (by decide) hc (by omega), ⟨by decide, by decide, by omega⟩, by decide, ⟨by decide, by decide⟩, hn0, fin⟩
  · exact ⟨by decide, hm _ _ (by decide) (by decide) hc (by omega), ⟨by decide, by decide, by omega⟩, by decide, hm _ _ (by decide) (by decide) hc (by omega), ⟨by decide, by decide, by omega⟩, by decide, ⟨by decide, by decide⟩, hn0, fin⟩
theorem h__law_draw : Hg g__law_draw tb__law_draw n__law_draw := by
  rintro ds R E M ⟨a, n, b, rfl, hn, hf, k⟩
  unfold tb__law_draw
  have hn0 : n ≠ 0 := by omega
  obtain ⟨o, ea, cs, i, l, c, rfl, ⟨hi, hc⟩, hb⟩ := hf
  unfold feedO at ea
  obtain ⟨t6, e6⟩ : ∃ t : DTS, t = tb__law_draw_c6 := ⟨_, rfl⟩
  rw [← e6]
  walk_at "dd"
  repeat (simp only [ea]; walk_at "dd")
  by_cases h : 0 < l
  · rw [if_pos h]
    exact ⟨hn0, cds hn0 (by omega), feed_next k (fmod_nn hn.1) hi (by omega) (by omega)⟩
  · rw [if_neg h, e6]
    refine ⟨by decide, q_intsNil ?_⟩
    cases cs with
    | nil =>
      try walk_at "dd"
      exact draw_tail (cs := []) hn (by omega) (by omega) (by omega) k
    | cons x xs =>
      try walk_at "dd"
      have h1 : ((List.map D.int (x :: xs)).length : Int) ≠ 0 := by rw [List.length_map, List.length_cons]; omega
      have h2 := fmod_nn (i := i) (n := ((List.map D.int (x :: xs)).length : Int)) (by rw [List.length_map, List.length_cons]; omega)
      refine ⟨h1, ?_⟩
      refine it_in h2.1 h2.2 fun d hd => ?_
      obtain ⟨z, _, rfl⟩ := List.mem_map.mp hd
      exact draw_tail hn (by omega) (by omega) (by omega) k
/-- a page's columns, rows, step -/
def PgOk (m c r s : Int) : Prop := (1 ≤ c ∧ c ≤ m) ∧ (1 ≤ r ∧ r ≤ m) ∧ 1 ≤ s ∧ s ≤ 16
def ePg (c r s : Int) : D := .tup [.int c, .int r, .int s]
def g__law_page : G := fun ds R E M => ∃ (a : Addr) (m : Int) (b : Nat), ds = [.ref a, .int m] ∧ (1 ≤ m ∧ m ≤ 6) ∧ (Feed M a (b + 3)) ∧ (∀ c r s o, PgOk m c r s → FdO o b → R (ePg c r s) (um M a o))
abbrev n__law_page : List Str := ["tape", "most"]
def tb__law_page : DTS :=
  (dRet (dTup (dCons (dOp addD (dC (.int 1)) (dCall g__law_draw (dCons (dVar 0) (dCons (dVar 1) dNil)))) (dCons (dOp addD (dC (.int 1)) (dCall g__law_draw (dCons (dVar 0) (dCons (dVar 1) dNil)))) (dCons (dIx (dLst (dCons (dC (.int 1)) (dCons (dC (.int 2)) (dCons (dC (.int 3)) (dCons (dC (.int 4)) (dCons (dC (.int 7)) (dCons (dC (.int 16)) dNil))))))) (dCall g__law_draw (dCons (dVar 0) (dCons (dC (.int 6)) dNil)))) dNil)))))
theorem l__law_page : ∀ ds R E M, g__law_page ds R E M → ds.length = 2 := by
  rintro ds R E M ⟨_, _, _, rfl, -⟩; rfl
theorem u__law_page {a : Addr} {m : Int} {b : Nat} {R : PD} {E : Ex → MS → Prop} {M : MS} (hm : 1 ≤ m ∧ m ≤ 6) (hf : Feed M a (b + 3)) (k : ∀ c r s o, PgOk m c r s → FdO o b → R (ePg c r s) (um M a o)) : g__law_page [.ref a, .int m] R E M := ⟨_, _, _, rfl, hm, hf, k⟩
theorem h__law_page : Hg g__law_page tb__law_page n__law_page := by
  rintro ds R E M ⟨a, m, b, rfl, hm, hf, k⟩
  unfold tb__law_page
  walk_at "dn"
  refine u__law_draw (by omega) hf fun c o1 a1 b1 f1 => ?_
  try walk_at "dn"
  refine u__law_draw (by omega) (Feed.um f1) fun r o2 a2 b2 f2 => ?_
  try walk_at "dn"
  refine ⟨by decide, ?_⟩
  refine u__law_draw (by omega) (Feed.um f2) fun s o3 a3 b3 f3 => ?_
  try walk_at "dn"
  refine it_lit (ns := [1, 2, 3, 4, 7, 16]) (P := fun i => 1 ≤ i ∧ i ≤ 16) (by decide) a3 b3 fun s hs => ?_
  exact ⟨by decide, Rw.of (k _ _ s _ ⟨by omega, by omega, hs⟩ f3)⟩
def g__law_coordinate : G := fun ds R E M => ∃ (a : Addr) (m s : Int) (b : Nat), ds = [.ref a, .int m, .int s] ∧ (1 ≤ m ∧ m ≤ 6) ∧ (1 ≤ s ∧ s ≤ 16) ∧ (Feed M a (b + 5)) ∧ (∀ x o, -99 ≤ x ∧ x ≤ 99 → FdO o b → R (.int x) (um M a o))
abbrev n__law_coordinate : List Str := ["tape", "many", "step", "some"]
def tb__law_coordinate : DTS :=
  (dSeq (dSet 3 (dLstN (dCons (dOp mulD (dVar 2) (dCall g__law_draw (dCons (dVar 0) (dCons (dOp addD (dVar 1) (dC (.int 1))) dNil)))) (dCons (dCall g__law_draw (dCons (dVar 0) (dCons (dOp addD (dOp mulD (dVar 1) (dVar 2)) (dC (.int 1))) dNil))) dNil))))
  (dSeq (dExpr (dMt appD (dVar 3) (dCons (dCB minD (dCons (dC (.int 99)) (dCons (dOp subD (dCall g__law_draw (dCons (dVar 0) (dCons (dOp addD (dOp mulD (dOp addD (dVar 1) (dC (.int 2))) (dVar 2)) (dC (.int 1))) dNil))) (dVar 2)) dNil))) dNil)))
  (dSeq (dExpr (dMt appD (dVar 3) (dCons (dIx (dLst (dCons (dC (.int 99)) (dCons (dUn negD (dC (.int 99))) (dCons (dUn negD (dC (.int 1))) (dCons (dC (.int 50)) dNil))))) (dCall g__law_draw (dCons (dVar 0) (dCons (dC (.int 4)) dNil)))) dNil)))
  (dRet (dIx (dVar 3) (dIx (dLst (dCons (dC (.int 0)) (dCons (dC (.int 1)) (dCons (dC (.int 1)) (dCons (dC (.int 2)) (dCons (dC (.int 2)) (dCons (dC (.int 2)) (dCons (dC (.int 3)) (dCons (dC (.int 0)) dNil))))))))) (dCall g__law_draw (dCons (dVar 0) (dCons (dC (.int 8)) dNil)))))))))
theorem l__law_coordinate : ∀ ds R E M, g__law_coordinate ds R E M → ds.length = 3 := by
  rintro ds R E M ⟨_, _, _, _, rfl, -⟩; rfl
theorem u__law_coordinate {a : Addr} {m s : Int} {b : Nat} {R : PD} {E : Ex → MS → Prop} {M : MS} (hm : 1 ≤ m ∧ m ≤ 6) (hs : 1 ≤ s ∧ s ≤ 16) (hf : Feed M a (b + 5)) (k : ∀ x o, -99 ≤ x ∧ x ≤ 99 → FdO o b → R (.int x) (um M a o)) : g__law_coordinate [.ref a, .int m, .int s] R E M := ⟨_, _, _, _, rfl, hm, hs, hf, k⟩
theorem h__law_coordinate : Hg g__law_coordinate tb__law_coordinate n__law_coordinate := by
  rintro ds R E M ⟨a, m, s, b, rfl, hm, hs, hf, k⟩
  unfold tb__law_coordinate
  have hms := mulB (A := 6) (B := 16) ⟨by omega, hm.2⟩ ⟨by omega, hs.2⟩
  have hms2 : (m + 2) * s = m * s + 2 * s := by rw [Int.add_mul]
  walk_at "dn"
  refine u__law_draw (by omega) hf fun r1 o1 a1 b1 f1 => ?_
  try walk_at "dn"
  have h1 := mulB (A := 16) (B := 6) ⟨by omega, hs.2⟩ ⟨a1, by omega⟩
  refine ⟨cms (by omega) (by omega), cms (by omega) (by omega), ?_⟩
  refine u__law_draw (by omega) (Feed.um f1) fun r2 o2 a2 b2 f2 => ?_
  try walk_at "dn"
  refine ⟨by decide, fun p hp => ⟨⟨_, rfl⟩, cms (by omega) (by omega), ?_⟩⟩
  have t0 := Two.new (F := fun o => FdO o (b + 3)) (L := [.int (s * r1), .int r2]) f2 hp
  have hpn : um M a o2 p = none := hp
  rw [hms2]
  refine u__law_draw (by omega) t0.fd fun r3 o3 a3 b3 f3 => ?_
  have t1 := Two.um (F' := fun o => FdO o (b + 2)) t0 f3
  try walk_at "dn"
  rw [um_ne t0.ne, um_same]
  refine ⟨_, rfl, slt (by show 2 ≤ _; decide), ⟨_, rfl⟩, by decide, ?_⟩
  have t2 := t1.put (L' := [.int (s * r1), .int r2] ++ [.int (if r3 - s < 99 then r3 - s else 99)])
  refine u__law_draw (by omega) t2.fd fun r4 o4 a4 b4 f4 => ?_
  have t3 := Two.um (F' := fun o => FdO o (b + 1)) t2 f4
  try walk_at "dn"
  refine it_lit (ns := [99, -99, -1, 50]) (P := fun i => -99 ≤ i ∧ i ≤ 99) (by decide) a4 b4 fun x hx => ?_
  refine ⟨_, t3.ls, slt (by show 3 ≤ _; decide), by decide, ?_⟩
  have t4 := t3.put (L' := ([.int (s * r1), .int r2] ++ [.int (if r3 - s < 99 then r3 - s else 99)]) ++ [.int x])
  refine u__law_draw (by omega) t4.fd fun r5 o5 a5 b5 f5 => ?_
  have t5 := Two.um (F' := fun o => FdO o b) t4 f5
  try walk_at "dn"
  refine it_lit (ns := [0, 1, 1, 2, 2, 2, 3, 0]) (P := fun i => 0 ≤ i ∧ i < 4) (by decide) a5 b5 fun y hy => ?_
  try walk_at "dn"
  refine ⟨_, t5.ls, ?_⟩
  refine it_lit (ns := [s * r1, r2, if r3 - s < 99 then r3 - s else 99, x]) (P := fun i => -99 ≤ i ∧ i ≤ 99) (fun i hi => ?_) hy.1 hy.2 fun z hz => ?_
  · simp only [List.mem_cons, List.not_mem_nil, or_false] at hi
    rcases hi with rfl | rfl | rfl | rfl <;> first | omega | (split <;> omega)
  · obtain ⟨o, fo, le⟩ := t5.out (by rwa [um_ne t5.ne] at hpn)
    exact Rw.le (k z o hz fo) le

/-! the tape's rings and paths -/
def P99 (p : Pt) : Prop := (-99 ≤ p.1 ∧ p.1 ≤ 99) ∧ -99 ≤ p.2 ∧ p.2 ≤ 99
def R99 (r : List Pt) : Prop := ∀ p, p ∈ r → P99 p
theorem R99.sub {r q : List Pt} (h : R99 r) (s : ∀ p, p ∈ q → p ∈ r) : R99 q := fun p hp => h p (s p hp)
theorem pick_mapN {α β : Type} (f : α → β) (xs : List α) : ∀ idx : List Nat, pickN idx (xs.map f) = (pickN idx xs).map f
  | [] => rfl
  | i :: idx => by
    have ih := pick_mapN f xs idx
    unfold pickN at ih ⊢
    cases e : xs[i]? with
    | none => rw [List.filterMap_cons_none e, List.filterMap_cons_none (by rw [List.getElem?_map, e]; rfl), ih]
    | some x => rw [List.filterMap_cons_some e, List.filterMap_cons_some (by rw [List.getElem?_map, e]; rfl), ih]; rfl
theorem pick_memN {α : Type} {idx : List Nat} {xs : List α} {x : α} (h : x ∈ pickN idx xs) : x ∈ xs := by
  unfold pickN at h
  obtain ⟨i, _, e⟩ := List.mem_filterMap.mp h
  exact List.mem_of_getElem? e
theorem step_ring {P : List Pt} {k : Int} {R : PD} {M : MS} (hk : k ≠ 0) (q : ∀ Q : List Pt, Q.length ≤ P.length → (∀ p, p ∈ Q → p ∈ P) → R (.lst (Q.map ePt)) M) : stepLD (.lst (P.map ePt)) (.int k) R M := by
  refine q_stepLL hk fun idx hi => ?_
  rw [pick_mapN] at hi ⊢
  rw [List.length_map, List.length_map] at hi
  exact q _ hi fun p hp => pick_memN hp

def g__law_ring : G := fun ds R E M => ∃ (a : Addr) (c r s most : Int) (A : List Pt) (b : Nat), ds = [.ref a, ePg c r s, .int most, eRing A] ∧ (PgOk 6 c r s) ∧ (1 ≤ most ∧ most ≤ 40) ∧ (R99 A ∧ A.length ≤ 40) ∧ (Feed M a (b + 60)) ∧ (∀ rg o, (rg.length : Int) ≤ most → R99 rg → FdO o b → R (eRing rg) (um M a o))
abbrev n__law_ring : List Str := ["tape", "page", "most", "ahead", "points", "turn", "way", "many", "x", "a", "b", "c", "d"]
def tb__law_ring_c7 : DTS :=
  (dRet (dCB tupD (dCons (dVar 4) dNil)))
def tb__law_ring_c6 : DTS :=
  (dSeq (dIfS (dAnd (dTst (dOp (eqD id) (dVar 6) (dC (.int 7)))) (dTst (dChain ltD leD (dC (.int 0)) (dCB lenD (dCons (dVar 3) dNil)) (dVar 2)))) (dSet 4 (dStepL (dCB lstD (dCons (dVar 3) dNil)) (dIx (dLst (dCons (dC (.int 1)) (dCons (dUn negD (dC (.int 1))) dNil))) (dCall g__law_draw (dCons (dVar 0) (dCons (dC (.int 2)) dNil)))))) dNext)
  tb__law_ring_c7)
def tb__law_ring_c5 : DTS :=
  (dSeq (dIfS (dTst (dOp (eqD id) (dVar 6) (dC (.int 6)))) (dSet 4 (dSl (dVar 4) dNoPart (dPart (dCall g__law_draw (dCons (dVar 0) (dCons (dC (.int 3)) dNil)))))) dNext)
  tb__law_ring_c6)
def tb__law_ring_c4 : DTS :=
  (dSeq (dIfS (dAnd (dTst (dOp (eqD id) (dVar 6) (dC (.int 5)))) (dTst (dOp gtD (dVar 2) (dC (.int 5))))) (dSet 4 (dOp mulD (dSl (dVar 4) dNoPart (dPart (dC (.int 3)))) (dC (.int 2)))) dNext)
  tb__law_ring_c5)
def tb__law_ring_c3 : DTS :=
  (dSeq (dIfS (dAnd (dTst (dOp (eqD id) (dVar 6) (dC (.int 4)))) (dTst (dOp gtD (dVar 2) (dC (.int 3))))) (dSeq (dAsg (.tp [(.tp [(.nm 9), (.nm 10)]), (.tp [(.nm 11), (.nm 12)])]) (dTup (dCons (dIx (dVar 4) (dC (.int 0))) (dCons (dIx (dVar 4) (dC (.int 1))) dNil))))
  (dSet 4 (dStepL (dLst (dCons (dTup (dCons (dVar 9) (dCons (dVar 10) dNil))) (dCons (dTup (dCons (dVar 9) (dCons (dVar 12) dNil))) (dCons (dTup (dCons (dVar 11) (dCons (dVar 12) dNil))) (dCons (dTup (dCons (dVar 11) (dCons (dVar 10) dNil))) dNil))))) (dIx (dLst (dCons (dC (.int 1)) (dCons (dUn negD (dC (.int 1))) dNil))) (dCall g__law_draw (dCons (dVar 0) (dCons (dC (.int 2)) dNil))))))) dNext)
  tb__law_ring_c4)
def tb__law_ring : DTS :=
  (dSeq (dPar 6 7 (dCons (dCall g__law_draw (dCons (dVar 0) (dCons (dC (.int 8)) dNil))) (dCons (dCB minD (dCons (dVar 2) (dCons (dOp addD (dC (.int 3)) (dCall g__law_draw (dCons (dVar 0) (dCons (dC (.int 3)) dNil)))) dNil))) dNil)))
  (dSeq (dSet 4 (dLstN dNil))
  (dSeq (dFor (dRng1 (dCons (dVar 7) dNil)) (.nm 5) (dSeq (dSet 8 (dCall g__law_coordinate (dCons (dVar 0) (dCons (dIx (dVar 1) (dC (.int 0))) (dCons (dIx (dVar 1) (dC (.int 2))) dNil)))))
  (dExpr (dMt appD (dVar 4) (dCons (dTup (dCons (dVar 8) (dCons (dCall g__law_coordinate (dCons (dVar 0) (dCons (dIx (dVar 1) (dC (.int 1))) (dCons (dIx (dVar 1) (dC (.int 2))) dNil)))) dNil))) dNil)))))
  tb__law_ring_c3)))
theorem l__law_ring : ∀ ds R E M, g__law_ring ds R E M → ds.length = 4 := by
  rintro ds R E M ⟨_, _, _, _, _, _, _, rfl, -⟩; rfl
theorem u__law_ring {a : Addr} {c r s most : Int} {A : List Pt} {b : Nat} {R : PD} {E : Ex → MS → Prop} {M : MS} (hp : PgOk 6 c r s) (hm : 1 ≤ most ∧ most ≤ 40) (hA : R99 A ∧ A.length ≤ 40) (hf : Feed M a (b + 60)) (k : ∀ rg o, (rg.length : Int) ≤ most → R99 rg → FdO o b → R (eRing rg) (um M a o)) : g__law_ring [.ref a, ePg c r s, .int most, eRing A] R E M := ⟨_, _, _, _, _, _, _, rfl, hp, hm, hA, hf, k⟩
/-- points, by the list of the store at p or by their items -/
def RgD (M : MS) (a p : Addr) (b : Nat) (most : Int) (d : D) (M2 : MS) : Prop := ∃ (P : List Pt) (L : List D), Two (fun o => FdO o b) M a p L M2 ∧ ((d = .ref p ∧ L = P.map ePt) ∨ d = .lst (P.map ePt)) ∧ (P.length : Int) ≤ most ∧ R99 P
theorem ring_fin {R : PD} {E : Ex → MS → Prop} {M M2 : MS} {a p : Addr} {b : Nat} {pg md ad d : D} {most : Int} {e5 e6 e7 e8 e9 e10 e11 e12 : Option D} (k : ∀ rg o, (rg.length : Int) ≤ most → R99 rg → FdO o b → R (eRing rg) (um M a o)) (hpn : M p = none)
    (h : RgD M a p b most d M2) :
    tb__law_ring_c7 (ends R E) [some (.ref a), some pg, some md, some ad, some d, e5, e6, e7, e8, e9, e10, e11, e12] M2 := by
  obtain ⟨rg, L, t, hd, hl, hr⟩ := h
  obtain ⟨o, fo, le⟩ := t.out hpn
  unfold tb__law_ring_c7
  rcases hd with ⟨rfl, rfl⟩ | rfl
  · walk_at "dn"
    exact ⟨_, t.ls, Rw.le (k rg o hl hr fo) le⟩
  · walk_at "dn"
    exact Rw.le (k rg o hl hr fo) le
theorem RgD.mono {M M2 : MS} {a p : Addr} {b c : Nat} {most : Int} {d : D} (h : RgD M a p b most d M2) (k : c ≤ b) : RgD M a p c most d M2 := by
  obtain ⟨P, L, t, h⟩ := h
  exact ⟨P, L, t.mono fun o f => f.mono k, h⟩
theorem ring_6 {R : PD} {E : Ex → MS → Prop} {M M2 : MS} {a p : Addr} {b : Nat} {pg d : D} {most way : Int} {A : List Pt} {e5 e7 e8 e9 e10 e11 e12 : Option D} (k : ∀ rg o, (rg.length : Int) ≤ most → R99 rg → FdO o b → R (eRing rg) (um M a o)) (hpn : M p = none)
    (hA : R99 A ∧ A.length ≤ 40) (h : RgD M a p (b + 4) most d M2) :
    tb__law_ring_c6 (ends R E) [some (.ref a), some pg, some (.int most), some (eRing A), some d, e5, some (.int way), e7, e8, e9, e10, e11, e12] M2 := by
  have fin : ∀ (E : Ex → MS → Prop), tb__law_ring_c7 (ends R E) [some (.ref a), some pg, some (.int most), some (eRing A), some d, e5, some (.int way), e7, e8, e9, e10, e11, e12] M2 := fun E => ring_fin k hpn (h.mono (by omega))
  obtain ⟨P, L, t, hd, hl, hr⟩ := h
  unfold tb__law_ring_c6
  obtain ⟨t7, e7'⟩ : ∃ t : DTS, t = tb__law_ring_c7 := ⟨_, rfl⟩
  rw [← e7'] at fin ⊢
  unfold eRing at fin ⊢
  walk_at "dn"
  by_cases h : way = 7
  · rw [if_pos h]
    by_cases h0 : (0 : Int) < (A.map ePt).length
    · rw [if_pos h0]
      by_cases h1 : ((A.map ePt).length : Int) ≤ most
      · rw [if_pos h1]
        rw [List.length_map] at h1
        refine ⟨by decide, ?_⟩
        refine u__law_draw (b := b + 3) (by omega) (t.mono fun o f => f).fd fun r o1 a1 b1 f1 => ?_
        have t1 := Two.um (F' := fun o => FdO o (b + 3)) t f1
        try walk_at "dn"
        refine it_lit (ns := [1, -1]) (P := fun i => i ≠ 0) (by decide) a1 b1 fun x hx => ?_
        try walk_at "dn"
        refine step_ring hx fun Q hQ hs => ?_
        rw [e7']
        exact ring_fin k hpn ⟨Q, L, t1.mono fun o f => f.mono (by omega), .inr rfl, by omega, hA.1.sub hs⟩
      · rw [if_neg h1]
        exact fin _
    · rw [if_neg h0]
      exact fin _
  · rw [if_neg h]
    exact fin _
theorem sl_either {M M2 : MS} {a p : Addr} {F : MO → Prop} {L : List D} {P : List Pt} {d : D} {lo hi : Option Int} {R : PD} (t : Two F M a p L M2) (hd : (d = .ref p ∧ L = P.map ePt) ∨ d = .lst (P.map ePt)) (k : R (.lst (cut (P.map ePt) lo hi)) M2) : slD d lo hi R M2 := by
  rcases hd with ⟨rfl, rfl⟩ | rfl
  · exact ⟨_, t.ls, k⟩
  · exact k
theorem ring_5 {R : PD} {E : Ex → MS → Prop} {M M2 : MS} {a p : Addr} {b : Nat} {pg d : D} {most way : Int} {A : List Pt} {e5 e7 e8 e9 e10 e11 e12 : Option D} (k : ∀ rg o, (rg.length : Int) ≤ most → R99 rg → FdO o b → R (eRing rg) (um M a o)) (hpn : M p = none)
    (hA : R99 A ∧ A.length ≤ 40) (h : RgD M a p (b + 5) most d M2) :
    tb__law_ring_c5 (ends R E) [some (.ref a), some pg, some (.int most), some (eRing A), some d, e5, some (.int way), e7, e8, e9, e10, e11, e12] M2 := by
  have fin : ∀ (E : Ex → MS → Prop), tb__law_ring_c6 (ends R E) [some (.ref a), some pg, some (.int most), some (eRing A), some d, e5, some (.int way), e7, e8, e9, e10, e11, e12] M2 := fun E => ring_6 k hpn hA (h.mono (by omega))
  obtain ⟨P, L, t, hd, hl, hr⟩ := h
  unfold tb__law_ring_c5
  obtain ⟨t7, e7'⟩ : ∃ t : DTS, t = tb__law_ring_c6 := ⟨_, rfl⟩
  rw [← e7'] at fin ⊢
  walk_at "dn"
  by_cases h : way = 6
  · rw [if_pos h]
    refine u__law_draw (b := b + 4) (by omega) t.fd fun r o1 a1 b1 f1 => ?_
    have t1 := Two.um (F' := fun o => FdO o (b + 4)) t f1
    try walk_at "dn"
    refine sl_either t1 hd ?_
    rw [cut_take' _ a1, ← List.map_take, e7']
    exact ring_6 k hpn hA ⟨P.take r.toNat, L, t1, .inr rfl, by rw [List.length_take]; omega, hr.sub fun q hq => List.mem_of_mem_take hq⟩
  · rw [if_neg h]
    exact fin _
theorem ring_4 {R : PD} {E : Ex → MS → Prop} {M M2 : MS} {a p : Addr} {b : Nat} {pg d : D} {most way : Int} {A : List Pt} {e5 e7 e8 e9 e10 e11 e12 : Option D} (k : ∀ rg o, (rg.length : Int) ≤ most → R99 rg → FdO o b → R (eRing rg) (um M a o)) (hpn : M p = none)
    (hA : R99 A ∧ A.length ≤ 40) (h : RgD M a p (b + 5) most d M2) :
    tb__law_ring_c4 (ends R E) [some (.ref a), some pg, some (.int most), some (eRing A), some d, e5, some (.int way), e7, e8, e9, e10, e11, e12] M2 := by
  have fin : ∀ (E : Ex → MS → Prop), tb__law_ring_c5 (ends R E) [some (.ref a), some pg, some (.int most), some (eRing A), some d, e5, some (.int way), e7, e8, e9, e10, e11, e12] M2 := fun E => ring_5 k hpn hA h
  obtain ⟨P, L, t, hd, hl, hr⟩ := h
  unfold tb__law_ring_c4
  obtain ⟨t7, e7'⟩ : ∃ t : DTS, t = tb__law_ring_c5 := ⟨_, rfl⟩
  rw [← e7'] at fin ⊢
  walk_at "dn"
  by_cases h : way = 5
  · rw [if_pos h]
    by_cases h5 : (5 : Int) < most
    · rw [if_pos h5]
      refine sl_either t hd ?_
      rw [cut_take' _ (by decide), ← List.map_take]
      refine ⟨_, rfl, by decide, by decide, slz (n := (((P.take (Int.toNat 3)).map ePt).length * Int.toNat 2)) ?_, ?_⟩
      · rw [List.length_map, List.length_take]
        show min 3 P.length * 2 ≤ _
        omega
      · rw [e7']
        have e : (List.replicate (Int.toNat 2) ((P.take (Int.toNat 3)).map ePt)).flatten = (P.take 3 ++ P.take 3).map ePt := by
          show (List.replicate 2 ((P.take 3).map ePt)).flatten = _
          rw [List.map_append]
          simp [List.replicate]
        rw [e]
        refine ring_5 k hpn hA ⟨P.take 3 ++ P.take 3, L, t, .inr rfl, ?_, hr.sub fun q hq => ?_⟩
        · rw [List.length_append, List.length_take]; omega
        · rcases List.mem_append.mp hq with hq | hq <;> exact List.mem_of_mem_take hq
    · rw [if_neg h5]
      exact fin _
  · rw [if_neg h]
    exact fin _
theorem two_of {P : List Pt} (h : 3 ≤ P.length) : ∃ p0 p1 rest, P = p0 :: p1 :: rest := match P, h with
  | p0 :: p1 :: rest, _ => ⟨p0, p1, rest, rfl⟩
theorem ring_3 {R : PD} {E : Ex → MS → Prop} {M M2 : MS} {a p : Addr} {b : Nat} {pg : D} {most way : Int} {A P : List Pt} {e5 e7 e8 e9 e10 e11 e12 : Option D} (k : ∀ rg o, (rg.length : Int) ≤ most → R99 rg → FdO o b → R (eRing rg) (um M a o)) (hpn : M p = none)
    (hA : R99 A ∧ A.length ≤ 40) (t : Two (fun o => FdO o (b + 6)) M a p (P.map ePt) M2) (hl : (P.length : Int) ≤ most) (hr : R99 P) (h3 : 3 < most → 3 ≤ P.length) :
    tb__law_ring_c3 (ends R E) [some (.ref a), some pg, some (.int most), some (eRing A), some (.ref p), e5, some (.int way), e7, e8, e9, e10, e11, e12] M2 := by
  have fin : ∀ (E : Ex → MS → Prop), tb__law_ring_c4 (ends R E) [some (.ref a), some pg, some (.int most), some (eRing A), some (.ref p), e5, some (.int way), e7, e8, e9, e10, e11, e12] M2 := fun E => ring_4 k hpn hA ⟨P, _, t.mono fun o f => f.mono (by omega), .inl ⟨rfl, rfl⟩, hl, hr⟩
  unfold tb__law_ring_c3
  obtain ⟨t7, e7'⟩ : ∃ t : DTS, t = tb__law_ring_c4 := ⟨_, rfl⟩
  rw [← e7'] at fin ⊢
  walk_at "dn"
  by_cases h : way = 4
  · rw [if_pos h]
    by_cases h4 : (3 : Int) < most
    · rw [if_pos h4]
      have hP := h3 h4
      obtain ⟨p0, p1, rest, rfl⟩ := two_of hP
      refine ⟨_, t.ls, it_at 0 rfl rfl ?_⟩
      refine ⟨_, t.ls, it_at 1 rfl rfl ?_⟩
      unfold ePt
      try walk_at "dn"
      refine ⟨by decide, by decide, by decide, by decide, by decide, by decide, by decide, ?_⟩
      refine u__law_draw (b := b + 5) (by omega) t.fd fun r o1 a1 b1 f1 => ?_
      have t1 := Two.um (F' := fun o => FdO o (b + 5)) t f1
      try walk_at "dn"
      refine it_lit (ns := [1, -1]) (P := fun i => i ≠ 0) (by decide) a1 b1 fun x hx => ?_
      try walk_at "dn"
      have q0 := hr p0 (.head _)
      have q1 := hr p1 (.tail _ (.head _))
      refine step_ring (P := [(p0.1, p0.2), (p0.1, p1.2), (p1.1, p1.2), (p1.1, p0.2)]) hx fun Q hQ hs => ?_
      rw [e7']
      refine ring_4 k hpn hA ⟨Q, _, t1, .inr rfl, ?_, R99.sub (r := [(p0.1, p0.2), (p0.1, p1.2), (p1.1, p1.2), (p1.1, p0.2)]) (fun q hq => ?_) hs⟩
      · have : Q.length ≤ 4 := hQ
        omega
      · simp only [List.mem_cons, List.not_mem_nil, or_false] at hq
        rcases hq with rfl | rfl | rfl | rfl
        · exact q0
        · exact ⟨q0.1, q1.2⟩
        · exact q1
        · exact ⟨q1.1, q0.2⟩
    · rw [if_neg h4]
      exact fin _
  · rw [if_neg h]
    exact fin _
theorem h__law_ring : Hg g__law_ring tb__law_ring n__law_ring := by
  rintro ds R E M ⟨a, c, r, s, most, A, b, rfl, hp, hm, hA, hf, k⟩
  unfold tb__law_ring
  unfold ePg
  obtain ⟨t7, e7'⟩ : ∃ t : DTS, t = tb__law_ring_c3 := ⟨_, rfl⟩
  rw [← e7']
  walk_at "dn"
  refine u__law_draw (b := b + 59) (by omega) hf fun way o1 a1 b1 f1 => ?_
  try walk_at "dn"
  refine u__law_draw (b := b + 58) (by omega) (Feed.um f1) fun mn o2 a2 b2 f2 => ?_
  try walk_at "dn"
  obtain ⟨n0, hn0, hn1, hn2⟩ : ∃ n : Nat, (if 3 + mn < most then 3 + mn else most) = n ∧ (n : Int) ≤ most ∧ n ≤ 5 ∧ (3 < most → 3 ≤ n) := by
    refine ⟨(if 3 + mn < most then 3 + mn else most).toNat, ?_, ?_, ?_, ?_⟩ <;> (split <;> omega)
  rw [hn0]
  refine ⟨by decide, fun p hpn => ⟨by omega, by omega, ?_⟩⟩
  have t0 := Two.new (F := fun o => FdO o (b + 58)) (L := []) f2 hpn
  have hpn' : M p = none := by rwa [um_ne t0.ne] at hpn
  rw [show ((n0 : Int)).toNat = n0 by omega]
  refine for_ind (fun its ρ M' => ∃ (n : Nat) (P : List Pt), its = rng P.length n ∧ P.length + n = n0 ∧ R99 P ∧ Two (fun o => FdO o (b + 6 + 10 * n)) M a p (P.map ePt) M' ∧ ∃ e5 e8 e9 e10 e11 e12, ρ = [some (.ref a), some (.tup [.int c, .int r, .int s]), some (.int most), some (eRing A), some (.ref p), e5, some (.int way), some (.int n0), e8, e9, e10, e11, e12]) ?_ ?_
    ⟨n0, [], rfl, Nat.zero_add _, fun q hq => (List.not_mem_nil hq).elim, t0.mono fun o f => f.mono (by omega), _, _, _, _, _, _, rfl⟩
  · rintro d its ρ M' Kx ⟨n, P, hi, hl, hP, t, e5, e8, e9, e10, e11, e12, rfl⟩ hk
    cases n with
    | zero => cases hi
    | succ n =>
      rw [rng_c] at hi
      cases hi
      walk_at "dn"
      refine u__law_coordinate (b := b + 6 + 10 * n + 5) ⟨hp.1.1, hp.1.2⟩ hp.2.2 t.fd fun x o3 hx f3 => ?_
      have t1 := Two.um (F' := fun o => FdO o (b + 6 + 10 * n + 5)) t f3
      try walk_at "dn"
      refine ⟨⟨_, t1.ls⟩, ?_⟩
      refine u__law_coordinate (b := b + 6 + 10 * n) ⟨hp.2.1.1, hp.2.1.2⟩ hp.2.2 t1.fd fun y o4 hy f4 => ?_
      have t2 := Two.um (F' := fun o => FdO o (b + 6 + 10 * n)) t1 f4
      rw [um_um] at t2
      try walk_at "dn"
      refine ⟨by decide, _, t2.ls, slt (by rw [List.length_map]; omega), ?_⟩
      refine hk _ _ ⟨n, P ++ [(x, y)], by rw [List.length_append, List.length_singleton]; rfl, by rw [List.length_append, List.length_singleton]; omega, fun z hz => ?_, ?_, _, _, _, _, _, _, rfl⟩
      · rcases List.mem_append.mp hz with hz | hz
        · exact hP z hz
        · cases List.mem_singleton.mp hz; exact ⟨hx, hy⟩
      · rw [List.map_append]
        exact t2.put
  · rintro ρ M' ⟨n, P, hi, hl, hP, t, e5, e8, e9, e10, e11, e12, rfl⟩
    have hn : n = 0 := by
      cases n with
      | zero => rfl
      | succ n => rw [rng_c] at hi; cases hi
    subst hn
    rw [e7']
    exact ring_3 k hpn' hA t (by omega) hP (by omega)

/-! the tape's paths -/
theorem eq_refNil {a : Addr} {ds : List D} {f : Bool → Bool} {R : PD} {M : MS} (h : M a = some (.lst ds)) (ok : okP (.lst ds)) (k : R (.bl (f ds.isEmpty)) M) : eqD f (.ref a) (.lst []) R M := by
  refine ⟨.lst ds, .lst [], ⟨ds, h, rfl⟩, rfl, ok.1, rfl, ok.2, okP_nil.2, ?_⟩
  have e : PyData.eqv (pd (.lst ds)) (pd (.lst [])) = ds.isEmpty := by
    show PyData.eqv (.list (pds ds)) (.list (pds [])) = _
    cases ds <;> simp [PyData.eqv, PyData.eqvAll, pds]
  rw [e]
  exact k
theorem nice_p99 {p : Pt} (h : P99 p) : Nice 7 1 58 (ePt p) := by
  obtain ⟨⟨h1, h2⟩, h3, h4⟩ := h
  refine nice_tup (n := 28) (fun d hd => ?_) (by simp only [List.length_cons, List.length_nil]; decide)
  simp only [List.mem_cons, List.not_mem_nil, or_false] at hd
  rcases hd with rfl | rfl
  · exact nice_int (by decide) (by decide) (by omega)
  · exact nice_int (by decide) (by decide) (by omega)
theorem nice_r99 {r : List Pt} (h : R99 r) (hl : r.length ≤ 40) : Nice 7 2 2360 (eRing r) := by
  refine nice_tup (n := 58) (fun d hd => ?_) (by rw [List.length_map]; omega)
  obtain ⟨p, hp, rfl⟩ := List.mem_map.mp hd
  exact nice_p99 (h p hp)
/-- a path of at most so many sides -/
structure Pth (most : Int) (P : List (List Pt)) : Prop where
  rings : P.length ≤ 6
  many : (P.flatten.length : Int) ≤ most
  ok : ∀ r, r ∈ P → R99 r
theorem Pth.ring {most : Int} {P : List (List Pt)} (h : Pth most P) {r : List Pt} (hr : r ∈ P) : (r.length : Int) ≤ most := by
  have : r.length ≤ P.flatten.length := by
    clear h
    induction P with
    | nil => cases hr
    | cons q P ih =>
      rw [List.flatten_cons, List.length_append]
      rcases List.mem_cons.mp hr with rfl | hr
      · omega
      · have := ih hr; omega
  have := h.many
  omega
theorem Pth.nice {most : Int} {P : List (List Pt)} (h : Pth most P) (hm : most ≤ 40) : Nice 7 3 14166 (ePath P) := by
  refine nice_tup (n := 2360) (fun d hd => ?_) (by rw [List.length_map]; have := h.rings; omega)
  obtain ⟨r, hr, rfl⟩ := List.mem_map.mp hd
  exact nice_r99 (h.ok r hr) (by have := h.ring hr; omega)
theorem Pth.niceL {most : Int} {P : List (List Pt)} (h : Pth most P) (hm : most ≤ 40) : Nice 7 3 14166 (.lst (P.map eRing)) := by
  refine nice_lst (n := 2360) (fun d hd => ?_) (by rw [List.length_map]; have := h.rings; omega)
  obtain ⟨r, hr, rfl⟩ := List.mem_map.mp hd
  exact nice_r99 (h.ok r hr) (by have := h.ring hr; omega)
theorem flat_snoc {α : Type} (P : List (List α)) (r : List α) : (P ++ [r]).flatten.length = P.flatten.length + r.length := by rw [List.flatten_append, List.length_append, List.flatten_cons, List.flatten_nil, List.append_nil]

def g__law_path : G := fun ds R E M => ∃ (a : Addr) (c r s most : Int) (b : Nat), ds = [.ref a, ePg c r s, .int most] ∧ (PgOk 6 c r s) ∧ (1 ≤ most ∧ most ≤ 40) ∧ (Feed M a (b + 500)) ∧ (∀ P o, Pth most P → FdO o b → R (ePath P) (um M a o))
abbrev n__law_path : List Str := ["tape", "page", "most", "rings", "left", "ahead"]
def tb__law_path_c2 : DTS :=
  (dRet (dCB tupD (dCons (dVar 3) dNil)))
def tb__law_path : DTS :=
  (dSeq (dPar3 3 4 5 (dCons (dLstN dNil) (dCons (dVar 2) (dCons (dTup dNil) dNil))))
  (dSeq (dWhile (dAnd (dTst (dOp gtD (dVar 4) (dC (.int 0)))) (dAnd (dTst (dOp ltD (dCB lenD (dCons (dVar 3) dNil)) (dC (.int 6)))) (dOr (dTst (dOp (eqD id) (dVar 3) (dLst dNil))) (dTst (dOp gtD (dCall g__law_draw (dCons (dVar 0) (dCons (dC (.int 4)) dNil))) (dC (.int 0))))))) (dSeq (dSet 5 (dCall g__law_ring (dCons (dVar 0) (dCons (dVar 1) (dCons (dVar 4) (dCons (dVar 5) dNil))))))
  (dSeq (dExpr (dMt appD (dVar 3) (dCons (dVar 5) dNil)))
  (dSet 4 (dOp subD (dVar 4) (dCB lenD (dCons (dVar 5) dNil)))))))
  tb__law_path_c2))
theorem l__law_path : ∀ ds R E M, g__law_path ds R E M → ds.length = 3 := by
  rintro ds R E M ⟨_, _, _, _, _, _, rfl, -⟩; rfl
theorem u__law_path {a : Addr} {c r s most : Int} {b : Nat} {R : PD} {E : Ex → MS → Prop} {M : MS} (hp : PgOk 6 c r s) (hm : 1 ≤ most ∧ most ≤ 40) (hf : Feed M a (b + 500)) (k : ∀ P o, Pth most P → FdO o b → R (ePath P) (um M a o)) : g__law_path [.ref a, ePg c r s, .int most] R E M := ⟨_, _, _, _, _, _, rfl, hp, hm, hf, k⟩
theorem h__law_path : Hg g__law_path tb__law_path n__law_path := by
  rintro ds R E M ⟨a, c, r, s, most, b, rfl, hp, hm, hf, k⟩
  unfold tb__law_path
  have hfo := hf
  obtain ⟨o0, eo0, fo0⟩ := hf
  walk_at "dn"
  refine ⟨by decide, fun p hpn => ⟨by decide, ?_⟩⟩
  have t0 : Two (fun o => FdO o (b + 500)) M a p [] (um M p (.lst [])) := by
    have ne : p ≠ a := fun e => by rw [e, eo0] at hpn; cases hpn
    exact ⟨⟨o0, by rw [um_ne (Ne.symm ne)]; exact eo0, fo0⟩, um_same, ne, fun q h1 h2 => um_ne h2⟩
  refine while_ind (fun m ρ M' => ∃ (P : List (List Pt)) (A : List Pt), m = 6 - P.length ∧ Pth most P ∧ (R99 A ∧ A.length ≤ 40) ∧ Two (fun o => FdO o (b + 70 * m)) M a p (P.map eRing) M' ∧ ρ = [some (.ref a), some (ePg c r s), some (.int most), some (.ref p), some (.int (most - P.flatten.length)), some (eRing A)]) ?_
    (m := 6) ⟨[], [], rfl, ⟨by decide, by show (0 : Int) ≤ most; omega, fun r hr => (List.not_mem_nil hr).elim⟩, ⟨fun q hq => (List.not_mem_nil hq).elim, by decide⟩, t0.mono fun o f => f.mono (by omega), by show _ = [_, _, _, _, some (D.int (most - ((0 : Nat) : Int))), _]; rw [show most - ((0 : Nat) : Int) = most by omega]; rfl⟩
  rintro m ρ M' Kx ⟨P, A, hm', hP, hA, t, rfl⟩ hk
  have fin : ∀ (E : Ex → MS → Prop) (b' : Nat) (M2 : MS) (e5 : Option D), b ≤ b' → Two (fun o => FdO o b') M a p (P.map eRing) M2 → tb__law_path_c2 (ends R E) [some (.ref a), some (ePg c r s), some (.int most), some (.ref p), some (.int (most - P.flatten.length)), e5] M2 := fun E b' M2 e5 hb t2 => by
    unfold tb__law_path_c2
    walk_at "dn"
    obtain ⟨o, fo, le⟩ := t2.out hpn
    exact ⟨_, t2.ls, Rw.le (k P o hP (fo.mono hb)) le⟩
  have go : ∀ (b' : Nat) (M2 : MS) (E : Ex → MS → Prop), P.length < 6 → 0 < most - (P.flatten.length : Int) → b + 70 * m ≤ b' + 1 → Two (fun o => FdO o b') M a p (P.map eRing) M2 →
      g__law_ring [.ref a, ePg c r s, .int (most - P.flatten.length), eRing A] (fun d M1 => (∃ ds, M1 p = some (MO.lst ds)) ∧ ∃ ds, M1 p = some (MO.lst ds) ∧ ds.length < sizeLine ∧ lenD [d] (fun y M2 => subD (.int (most - P.flatten.length)) y (fun d_1 M1 => Kx [some (.ref a), some (ePg c r s), some (.int most), some (.ref p), some d_1, some d] M1) M2) (DL.um M1 p (.lst (ds ++ [d])))) E M2 := fun b' M2 E h6 h0 hb t2 => by
    refine u__law_ring (b := b' - 60) hp ⟨by omega, by omega⟩ hA (by rw [show b' - 60 + 60 = b' by omega]; exact t2.fd) fun rg o h1 h2 f => ?_
    have t3 := Two.um (F' := fun o => FdO o (b' - 60)) t2 f
    refine ⟨⟨_, t3.ls⟩, _, t3.ls, slt (by rw [List.length_map]; omega), ?_⟩
    unfold eRing
    rw [q_lenT, q_sub, List.length_map]
    refine hk (m - 1) _ _ (by omega) ⟨P ++ [rg], rg, by rw [List.length_append, List.length_singleton]; omega, ⟨by rw [List.length_append, List.length_singleton]; omega, by rw [flat_snoc]; omega, fun q hq => ?_⟩, ⟨h2, by omega⟩, ?_, ?_⟩
    · rcases List.mem_append.mp hq with hq | hq
      · exact hP.ok q hq
      · cases List.mem_singleton.mp hq; exact h2
    · rw [List.map_append]
      exact (t3.put).mono fun o f => f.mono (by omega)
    · rw [flat_snoc, show most - (P.flatten.length : Int) - (rg.length : Int) = most - ((P.flatten.length + rg.length : Nat) : Int) by omega]
      rfl
  obtain ⟨t7, e7'⟩ : ∃ t : DTS, t = tb__law_path_c2 := ⟨_, rfl⟩
  rw [← e7'] at fin ⊢
  walk_at "dn"
  by_cases h0 : 0 < most - (P.flatten.length : Int)
  · rw [if_pos h0]
    refine ⟨_, t.ls, ?_⟩
    rw [List.length_map]
    by_cases h6 : P.length < 6
    · rw [if_pos (by omega)]
      refine ⟨by decide, ?_⟩
      refine eq_refNil t.ls ((hP.niceL hm.2).okP (by decide)) ?_
      cases hPe : (P.map eRing).isEmpty with
      | true =>
        try walk_at "dn"
        exact go (b + 70 * m) _ _ h6 h0 (by omega) t
      | false =>
        try walk_at "dn"
        refine u__law_draw (b := b + 70 * m - 1) (by omega) (by rw [show b + 70 * m - 1 + 1 = b + 70 * m by omega]; exact t.fd) fun x o2 a2 b2 f2 => ?_
        have t2 := Two.um (F' := fun o => FdO o (b + 70 * m - 1)) t f2
        try walk_at "dn"
        by_cases hx : 0 < x
        · rw [if_pos hx]
          exact go (b + 70 * m - 1) _ _ h6 h0 (by omega) t2
        · rw [if_neg hx]
          exact fin _ _ _ _ (by omega) t2
    · rw [if_neg (by omega)]
      exact fin _ _ _ _ (by omega) t
  · rw [if_neg h0]
    exact fin _ _ _ _ (by omega) t

/-! the tape laws' own fractions -/
theorem ne_ok {x y : Rat} {R : PD} {M : MS} (h : x = y) (k : R (.bl false) M) : eqD (fun k => !k) (eF x) (eF y) R M := eq_eF (by rw [decide_eq_true h]; exact k)
theorem q_ixF0 {q : Rat} {R : PD} {M : MS} : ixD (eF q) (.int 0) R M = R (.int q.num) M := by unfold eF; rw [q_ixT, q_it0]
theorem q_ixF1 {q : Rat} {R : PD} {M : MS} : ixD (eF q) (.int 1) R M = R (.int (q.den : Int)) M := by unfold eF; rw [q_ixT, q_it1]
theorem sz_i {n : Nat} {i : Int} (h : Bd n i) (hn : 0 < n) : Sz n (i : Rat) := ⟨h, bd_of (Nat.one_lt_two_pow (by omega))⟩
theorem eF_i (i : Int) : eF (i : Rat) = .tup [.int i, .int 1] := rfl
def g__law_ratio : G := fun ds R E M => ∃ (a b : Int), ds = [.int a, .int b] ∧ (b ≠ 0) ∧ (Bd 8000 a) ∧ (Bd 8000 b) ∧ (R (eF (Rat.divInt a b)) M)
abbrev n__law_ratio : List Str := ["a", "b", "one", "other"]
def tb__law_ratio : DTS :=
  (dSeq (dPar 2 3 (dCons (dCB absD (dCons (dVar 0) dNil)) (dCons (dCB absD (dCons (dVar 1) dNil)) dNil)))
  (dSeq (dWhile (dTst (dOp (eqD fun k => !k) (dVar 3) (dC (.int 0)))) (dPar 2 3 (dCons (dVar 3) (dCons (dOp modD (dVar 2) (dVar 3)) dNil))))
  (dSeq (dSet 2 (dIf (dTst (dOp gtD (dVar 1) (dC (.int 0)))) (dVar 2) (dOp subD (dC (.int 0)) (dVar 2))))
  (dRet (dTup (dCons (dOp fdivD (dVar 0) (dVar 2)) (dCons (dOp fdivD (dVar 1) (dVar 2)) dNil)))))))
theorem l__law_ratio : ∀ ds R E M, g__law_ratio ds R E M → ds.length = 2 := by
  rintro ds R E M ⟨_, _, rfl, -⟩; rfl
theorem u__law_ratio {a b : Int} {R : PD} {E : Ex → MS → Prop} {M : MS} (h0 : b ≠ 0) (ha : Bd 8000 a) (hb : Bd 8000 b) (k : R (eF (Rat.divInt a b)) M) : g__law_ratio [.int a, .int b] R E M := ⟨_, _, rfl, h0, ha, hb, k⟩
theorem abs_gcd' {a b : Int} : Int.gcd (if a < 0 then -a else a) (if b < 0 then -b else b) = Int.gcd a b := by
  split <;> split <;> simp only [Int.gcd_neg, Int.neg_gcd]
theorem gcd_div {a b : Int} (h0 : b ≠ 0) (hb : Bd 8000 b) : ((Int.gcd a b : Nat) : Int) ≠ 0 ∧ ((Int.gcd a b : Nat) : Int).natAbs.log2 < 9000 := by
  have hg0 : ((Int.gcd a b : Nat) : Int) ≠ 0 := by
    have := Int.gcd_pos_of_ne_zero_right a h0
    omega
  have hgb : Bd 8000 ((Int.gcd a b : Nat) : Int) := hb.of_le (by
    rw [Int.natAbs_natCast]
    exact Nat.le_of_dvd (by omega) (Int.gcd_dvd_natAbs_right a b))
  exact ⟨hg0, Nat.lt_of_lt_of_le (hgb.log (by decide)) (by decide)⟩
theorem h__law_ratio : Hg g__law_ratio tb__law_ratio n__law_ratio := by
  rintro ds R E M ⟨a, b, rfl, h0, ha, hb, k⟩
  unfold tb__law_ratio
  walk_at "dn"
  refine while_ind (fun m ρ M' => ∃ x y : Int, 0 ≤ x ∧ 0 ≤ y ∧ Int.gcd x y = Int.gcd a b ∧ m = y.toNat ∧ M' = M ∧ ρ = [some (.int a), some (.int b), some (.int x), some (.int y)]) ?_
    ⟨_, _, by split <;> omega, by split <;> omega, abs_gcd', rfl, rfl, rfl⟩
  rintro m ρ M' Kx ⟨x, y, hx, hy, hg, rfl, rfl, rfl⟩ hk
  walk_at "dn"
  by_cases e : y = 0
  · subst e
    rw [Int.gcd_zero_right] at hg
    obtain rfl : x = ((Int.gcd a b : Nat) : Int) := by omega
    obtain ⟨g0, gl⟩ := gcd_div (a := a) h0 hb
    simp only [decide_true, Bool.not_true, Bool.false_eq_true, if_false, not_true_eq_false, not_false_eq_true]
    try walk_at "dn"
    by_cases hn : 0 < b
    · rw [if_pos hn]
      rw [rat_num hn rfl, rat_den hn rfl]
      exact ⟨⟨g0, gl⟩, ⟨g0, gl⟩, by decide, Rw.of k⟩
    · rw [if_neg hn]
      have gl2 : (0 - ((Int.gcd a b : Nat) : Int)).natAbs.log2 < 9000 := by rw [Int.zero_sub, Int.natAbs_neg]; exact gl
      rw [ratn_num (by omega) rfl, ratn_den (by omega) rfl]
      exact ⟨⟨by omega, gl2⟩, ⟨by omega, gl2⟩, by decide, Rw.of k⟩
  · simp only [e, if_true, if_false, decide_false, Bool.not_false, not_false_eq_true]
    try walk_at "dn"
    have := fmod_nn (i := x) (n := y) (by omega)
    exact ⟨e, hk _ _ _ (by omega) ⟨y, x.fmod y, by omega, this.1, (gcd_step hx (by omega)).trans hg, rfl, rfl, rfl⟩⟩

/-- 1 where the one is greater, -1 where it is less, 0 -/
def ovr (p q : Rat) : Int := (if q < p then 1 else 0) - (if p < q then 1 else 0)
theorem ovr_pos {p q : Rat} : 0 < ovr p q ↔ q < p := by
  unfold ovr
  by_cases h : q < p
  · rw [if_pos h, if_neg (by grind)]; exact ⟨fun _ => h, fun _ => by decide⟩
  · rw [if_neg h]; split <;> exact ⟨fun z => by omega, fun z => absurd z h⟩
theorem ovr_neg {p q : Rat} : ovr p q < 0 ↔ p < q := by
  unfold ovr
  by_cases h : p < q
  · rw [if_pos h, if_neg (by grind)]; exact ⟨fun _ => h, fun _ => by decide⟩
  · rw [if_neg h]; split <;> exact ⟨fun z => by omega, fun z => absurd z h⟩
theorem ovr_ge {p q : Rat} : 0 ≤ ovr p q ↔ q ≤ p := by
  have := ovr_neg (p := p) (q := q)
  constructor
  · intro h; exact Rat.not_lt.mp fun z => by have := this.mpr z; omega
  · intro h
    by_cases z : ovr p q < 0
    · exact absurd h (Rat.not_le.mpr (this.mp z))
    · omega
theorem ovr_le {p q : Rat} : ovr p q ≤ 0 ↔ p ≤ q := by
  have := ovr_pos (p := p) (q := q)
  constructor
  · intro h; exact Rat.not_lt.mp fun z => by have := this.mpr z; omega
  · intro h
    by_cases z : 0 < ovr p q
    · exact absurd h (Rat.not_le.mpr (this.mp z))
    · omega
def g__law_over : G := fun ds R E M => ∃ (p q : Rat) (n m : Nat), ds = [eF p, eF q] ∧ (Sz n p) ∧ (Sz m q) ∧ (n + m ≤ 7000) ∧ (R (.int (ovr p q)) M)
abbrev n__law_over : List Str := ["one", "other", "some"]
def tb__law_over : DTS :=
  (dSeq (dSet 2 (dOp subD (dOp mulD (dIx (dVar 0) (dC (.int 0))) (dIx (dVar 1) (dC (.int 1)))) (dOp mulD (dIx (dVar 1) (dC (.int 0))) (dIx (dVar 0) (dC (.int 1))))))
  (dRet (dOp subD (dCB intD (dCons (dOp gtD (dVar 2) (dC (.int 0))) dNil)) (dCB intD (dCons (dOp ltD (dVar 2) (dC (.int 0))) dNil)))))
theorem l__law_over : ∀ ds R E M, g__law_over ds R E M → ds.length = 2 := by
  rintro ds R E M ⟨_, _, _, _, rfl, -⟩; rfl
theorem u__law_over {p q : Rat} {n m : Nat} {R : PD} {E : Ex → MS → Prop} {M : MS} (s1 : Sz n p) (s2 : Sz m q) (hn : n + m ≤ 7000) (k : R (.int (ovr p q)) M) : g__law_over [eF p, eF q] R E M := ⟨_, _, _, _, rfl, s1, s2, hn, k⟩
theorem h__law_over : Hg g__law_over tb__law_over n__law_over := by
  rintro ds R E M ⟨p, q, n, m, rfl, s1, s2, hn, k⟩
  unfold tb__law_over
  unfold eF
  walk_at "dn"
  refine ⟨s1.num.cmul s2.den (by omega) (by omega), s2.num.cmul s1.den (by omega) (by omega), ?_⟩
  have e1 : (if 0 < p.num * (q.den : Int) - q.num * (p.den : Int) then (1 : Int) else 0) = if q < p then 1 else 0 := ite_congr (propext (by rw [Rat.lt_iff]; omega)) (fun _ => rfl) (fun _ => rfl)
  have e2 : (if p.num * (q.den : Int) - q.num * (p.den : Int) < 0 then (1 : Int) else 0) = if p < q then 1 else 0 := ite_congr (propext (by rw [Rat.lt_iff]; omega)) (fun _ => rfl) (fun _ => rfl)
  rw [e1, e2]
  exact Rw.of k


/-! the tape laws' sides, and what they find of a spot by the ray downwards -/
theorem fmod_nat {a b : Nat} (hb : 0 < b) : Int.fmod (a : Int) (b : Int) = ((a % b : Nat) : Int) := by
  rw [Int.fmod_eq_emod_of_nonneg _ (by omega)]; omega
theorem sidesR_get {r : List Pt} {k : Nat} (h : k < r.length) : (sidesR r)[k]? = some (r[k], r[(k + 1) % r.length]'(Nat.mod_lt _ (by omega))) := by
  unfold sidesR
  have h2 : (r.drop 1 ++ r.take 1)[k]? = some (r[(k + 1) % r.length]'(Nat.mod_lt _ (by omega))) := by
    by_cases c : k + 1 < r.length
    · have e : (k + 1) % r.length = k + 1 := Nat.mod_eq_of_lt c
      rw [List.getElem?_append_left (by rw [List.length_drop]; omega), List.getElem?_drop, List.getElem?_eq_getElem (by omega)]
      simp only [e, Nat.add_comm]
    · have e : k + 1 = r.length := by omega
      have e2 : (k + 1) % r.length = 0 := by rw [e, Nat.mod_self]
      rw [List.getElem?_append_right (by rw [List.length_drop]; omega), List.length_drop, show k - (r.length - 1) = 0 by omega, List.getElem?_take, if_pos (by decide), List.getElem?_eq_getElem (by omega)]
      simp only [e2]
  exact List.getElem?_zip_eq_some.mpr ⟨List.getElem?_eq_getElem h, h2⟩
theorem sidesP_snoc (P : List (List Pt)) (r : List Pt) : sidesP (P ++ [r]) = sidesP P ++ sidesR r := by
  unfold sidesP
  rw [List.flatMap_append, List.flatMap_cons, List.flatMap_nil, List.append_nil]
theorem sidesP_le {P : List (List Pt)} {r : List Pt} (h : r ∈ P) : r.length ≤ P.flatten.length := by
  induction P with
  | nil => cases h
  | cons q P ih =>
    rw [List.flatten_cons, List.length_append]
    rcases List.mem_cons.mp h with rfl | h
    · omega
    · have := ih h; omega
def g__law_sides : G := fun ds R E M => ∃ (P : List (List Pt)), ds = [ePath P] ∧ (P.flatten.length ≤ 10000) ∧ (R (.lst ((sidesP P).map eSide)) M)
abbrev n__law_sides : List Str := ["path", "found", "ring", "k"]
def tb__law_sides : DTS :=
  (dSeq (dSet 1 (dLstN dNil))
  (dSeq (dFor (dItems (dVar 0)) (.nm 2) (dFor (dRng1 (dCons (dCB lenD (dCons (dVar 2) dNil)) dNil)) (.nm 3) (dExpr (dMt appD (dVar 1) (dCons (dTup (dCons (dIx (dVar 2) (dVar 3)) (dCons (dIx (dVar 2) (dOp modD (dOp addD (dVar 3) (dC (.int 1))) (dCB lenD (dCons (dVar 2) dNil)))) dNil))) dNil)))))
  (dRet (dVar 1))))
theorem l__law_sides : ∀ ds R E M, g__law_sides ds R E M → ds.length = 1 := by
  rintro ds R E M ⟨_, rfl, -⟩; rfl
theorem u__law_sides {P : List (List Pt)} {R : PD} {E : Ex → MS → Prop} {M : MS} (hl : P.flatten.length ≤ 10000) (k : R (.lst ((sidesP P).map eSide)) M) : g__law_sides [ePath P] R E M := ⟨_, rfl, hl, k⟩
theorem h__law_sides : Hg g__law_sides tb__law_sides n__law_sides := by
  rintro ds R E M ⟨P, rfl, hl, k⟩
  unfold tb__law_sides
  unfold ePath
  walk_at "dn"
  refine ⟨by decide, fun p hp => ?_⟩
  refine for_ind (fun its ρ M' => ∃ pre suf, P = pre ++ suf ∧ its = suf.map eRing ∧ M' = um M p (.lst ((sidesP pre).map eSide)) ∧ ∃ e2 e3, ρ = [some (ePath P), some (.ref p), e2, e3]) ?_ ?_ ⟨[], P, rfl, rfl, rfl, _, _, rfl⟩
  · rintro d its ρ M' Kx ⟨pre, suf, eP, e1, rfl, e2, e3, rfl⟩ hk
    cases suf with
    | nil => cases e1
    | cons r suf =>
      cases e1
      have hr : (sidesP pre).length + r.length ≤ 10000 := by
        have := congrArg (fun L : List (List Pt) => L.flatten.length) eP
        simp only [List.flatten_append, List.flatten_cons, List.length_append] at this
        rw [sidesP_len]
        omega
      unfold eRing
      walk_at "dn"
      rw [List.length_map]
      refine ⟨by omega, by omega, ?_⟩
      refine for_ind (fun its ρ M' => ∃ k n, its = rng (k : Nat) n ∧ k + n = r.length ∧ M' = um M p (.lst ((sidesP pre ++ (sidesR r).take k).map eSide)) ∧ ∃ e3, ρ = [some (ePath P), some (.ref p), some (.tup (r.map ePt)), e3]) ?_ ?_ ⟨0, r.length, by rw [show ((r.length : Int)).toNat = r.length by omega]; rfl, by omega, by rw [List.take_zero, List.append_nil], _, rfl⟩
      · rintro d its ρ M' Ky ⟨k, n, ei, hn, rfl, e3, rfl⟩ hk2
        cases n with
        | zero => cases ei
        | succ n =>
          rw [rng_c] at ei
          cases ei
          have hkl : k < r.length := by omega
          have g1 : (r.map ePt)[k]? = some (ePt r[k]) := by rw [List.getElem?_map, List.getElem?_eq_getElem hkl]; rfl
          have hm : (k + 1) % r.length < r.length := Nat.mod_lt _ (by omega)
          have g2 : (r.map ePt)[(k + 1) % r.length]? = some (ePt r[(k + 1) % r.length]) := by rw [List.getElem?_map, List.getElem?_eq_getElem hm]; rfl
          walk_at "dn"
          refine ⟨⟨_, rfl⟩, it_at k rfl g1 ?_⟩
          rw [List.length_map]
          refine ⟨by omega, it_at ((k + 1) % r.length) (by rw [← fmod_nat (by omega)]; rfl) g2 ?_⟩
          refine ⟨by decide, _, um_same, ?_, ?_⟩
          · rw [List.length_map, List.length_append, List.length_take, sidesR_len]
            exact slt (by omega)
          refine hk2 _ _ ⟨k + 1, n, rfl, by omega, ?_, _, rfl⟩
          have e : (sidesR r).take (k + 1) = (sidesR r).take k ++ [(r[k], r[(k + 1) % r.length])] := by
            rw [List.take_add_one, sidesR_get hkl]; rfl
          rw [e, ← List.append_assoc, List.map_append (l₂ := [_]), um_um]
          rfl
      · rintro ρ M' ⟨k, n, ei, hn, rfl, e3, rfl⟩
        have h0 : n = 0 := by cases n with | zero => rfl | succ n => rw [rng_c] at ei; cases ei
        subst h0
        refine hk _ _ ⟨pre ++ [r], suf, by rw [eP, List.append_assoc]; rfl, rfl, ?_, _, _, rfl⟩
        rw [sidesP_snoc, List.take_of_length_le (by rw [sidesR_len]; omega)]
  · rintro ρ M' ⟨pre, suf, eP, e1, rfl, e2, e3, rfl⟩
    have hS : suf = [] := by cases suf <;> first | rfl | cases e1
    subst hS
    rw [List.append_nil] at eP
    subst eP
    walk_at "dn"
    exact Rw.frz (M' := M) k (Le.um hp) um_same hp


/-! the tape laws' cells and edges *)-/
def eCl (x : Int × Int) : D := eI2 x.1 x.2
def cellsR (c : Int) : Nat → List (Int × Int)
  | 0 => []
  | n + 1 => cellsR c n ++ (List.range c.toNat).map fun (i : Nat) => ((i : Int), (n : Int))
theorem cellsR_len (c : Int) : ∀ n, (cellsR c n).length = c.toNat * n
  | 0 => rfl
  | n + 1 => by
    unfold cellsR
    rw [List.length_append, cellsR_len c n, List.length_map, List.length_range, Nat.mul_succ]
theorem cellsR_ok {c : Int} : ∀ {n : Nat} {x : Int × Int}, x ∈ cellsR c n → (0 ≤ x.1 ∧ x.1 < c) ∧ 0 ≤ x.2 ∧ x.2 < n
  | n + 1, x, h => by
    unfold cellsR at h
    rcases List.mem_append.mp h with h | h
    · have := cellsR_ok h
      omega
    · obtain ⟨i, hi, rfl⟩ := List.mem_map.mp h
      have := List.mem_range.mp hi
      simp only
      omega
def g__law_cells : G := fun ds R E M => ∃ (c r s : Int), ds = [ePg c r s] ∧ (PgOk 6 c r s) ∧ (∀ p, M p = none → R (.ref p) (um M p (.lst ((cellsR c r.toNat).map eCl))))
abbrev n__law_cells : List Str := ["page", "found", "row", "column"]
def tb__law_cells_b1 : DTS :=
  (dExpr (dMt extD (dVar 1) (dCons (dLc (dRng1 (dCons (dIx (dVar 0) (dC (.int 0))) dNil)) (.nm 3) dYes (dTup (dCons (dVar 3) (dCons (dVar 2) dNil))) [3]) dNil)))
def tb__law_cells : DTS :=
  (dSeq (dSet 1 (dLstN dNil))
  (dSeq (dFor (dRng1 (dCons (dIx (dVar 0) (dC (.int 1))) dNil)) (.nm 2) tb__law_cells_b1)
  (dRet (dVar 1))))
theorem l__law_cells : ∀ ds R E M, g__law_cells ds R E M → ds.length = 1 := by
  rintro ds R E M ⟨_, _, _, rfl, -⟩; rfl
theorem u__law_cells {c r s : Int} {R : PD} {E : Ex → MS → Prop} {M : MS} (hp : PgOk 6 c r s) (k : ∀ p, M p = none → R (.ref p) (um M p (.lst ((cellsR c r.toNat).map eCl)))) : g__law_cells [ePg c r s] R E M := ⟨_, _, _, rfl, hp, k⟩
theorem h__law_cells : Hg g__law_cells tb__law_cells n__law_cells := by
  rintro ds R E M ⟨c, r, s, rfl, hp, k⟩
  unfold tb__law_cells
  obtain ⟨⟨c0, c1⟩, ⟨r0, r1⟩, s0, s1⟩ := hp
  unfold ePg
  walk_at "dn"
  refine ⟨Nat.zero_le _, fun a ha => ?_⟩
  refine ⟨by omega, by omega, ?_⟩
  refine for_rngI (fun (n : Nat) ρ M' => ∃ d2 d3, M' = um M a (.lst ((cellsR c n).map eCl)) ∧ ρ = [some (D.tup [D.int c, D.int r, D.int s]), some (D.ref a), d2, d3]) ?_ ?_ ⟨_, _, rfl, rfl⟩
  · rintro n hn ρ M' Kx ⟨d2, d3, rfl, rfl⟩ hk
    unfold tb__law_cells_b1
    walk_at "dn"
    refine ⟨⟨_, rfl⟩, ?_⟩
    try walk_at "dn"
    refine ⟨by omega, by omega, ?_⟩
    rw [show rng 0 c.toNat = (List.range c.toNat).map fun (i : Nat) => D.int (i : Int) by
      unfold rng
      exact List.map_congr_left fun i _ => by rw [Int.zero_add]]
    refine lc_mapG (fun (i : Nat) => D.int (i : Int)) (fun (i : Nat) => eCl ((i : Int), (n : Int))) (fun i hi R q => ?_) (slz (by rw [List.length_range]; omega)) ?_
    · walk_at "dn"
      exact ⟨by decide, q⟩
    have hl := cellsR_len c n
    have hm := Nat.mul_le_mul (show c.toNat ≤ 6 by omega) (show n ≤ 6 by omega)
    refine ⟨_, um_same, _, rfl, by simp only [List.length_map, List.length_range]; exact slz (by omega), ?_⟩
    refine hk _ _ ⟨_, _, ?_, rfl⟩
    rw [um_um, show cellsR c (n + 1) = cellsR c n ++ (List.range c.toNat).map fun (i : Nat) => ((i : Int), (n : Int)) from rfl, List.map_append, List.map_map]
    rfl
  · rintro ρ M' ⟨d2, d3, rfl, rfl⟩
    walk_at "dn"
    exact Rw.of (k a ha)
def g__law_edges : G := fun ds R E M => ∃ (c r s i j : Int), ds = [ePg c r s, eI2 i j] ∧ (CellOk c r s i j) ∧ (R (eI4 (i * s) (j * s) (i * s + s) (j * s + s)) M)
abbrev n__law_edges : List Str := ["page", "cell", "left", "low"]
def tb__law_edges : DTS :=
  (dSeq (dPar 2 3 (dCons (dOp mulD (dIx (dVar 1) (dC (.int 0))) (dIx (dVar 0) (dC (.int 2)))) (dCons (dOp mulD (dIx (dVar 1) (dC (.int 1))) (dIx (dVar 0) (dC (.int 2)))) dNil)))
  (dRet (dTup (dCons (dVar 2) (dCons (dVar 3) (dCons (dOp addD (dVar 2) (dIx (dVar 0) (dC (.int 2)))) (dCons (dOp addD (dVar 3) (dIx (dVar 0) (dC (.int 2)))) dNil)))))))
theorem l__law_edges : ∀ ds R E M, g__law_edges ds R E M → ds.length = 2 := by
  rintro ds R E M ⟨_, _, _, _, _, rfl, -⟩; rfl
theorem u__law_edges {c r s i j : Int} {R : PD} {E : Ex → MS → Prop} {M : MS} (hc : CellOk c r s i j) (k : R (eI4 (i * s) (j * s) (i * s + s) (j * s + s)) M) : g__law_edges [ePg c r s, eI2 i j] R E M := ⟨_, _, _, _, _, rfl, hc, k⟩
theorem h__law_edges : Hg g__law_edges tb__law_edges n__law_edges := by
  rintro ds R E M ⟨c, r, s, i, j, rfl, hc, k⟩
  unfold tb__law_edges
  obtain ⟨b1, b3, b2, b4⟩ := cell_bd hc
  have bs : Bd 20 s := bd_of (by have := hc.s0; have := hc.s1; omega)
  have bi : Bd 20 i := bd_of (by have := hc.i0; have := hc.i1; have := hc.c1; omega)
  have bj : Bd 20 j := bd_of (by have := hc.j0; have := hc.j1; have := hc.r1; omega)
  unfold ePg eI2
  walk_at "dn"
  exact ⟨bi.cmul bs (by decide) (by decide), bj.cmul bs (by decide) (by decide), by decide, Rw.of k⟩

/-! k37: heights told *)-/
def g__law_is_ratio : G := fun ds R E M => ∃ (q : Rat), ds = [eF q] ∧ (Sz 4000 q) ∧ (R (.bl true) M)
abbrev n__law_is_ratio : List Str := ["thing", "one"]
def tb__law_is_ratio : DTS :=
  (dSeq (dIfS (dOr (dNot (dTru (dCB isiD (dCons (dVar 0) (dCons (dC (.ty "tuple")) dNil))))) (dTst (dOp (eqD fun k => !k) (dCB lenD (dCons (dVar 0) dNil)) (dC (.int 2))))) (dRet (dC (.bl false))) dNext)
  (dSeq (dIfS (dOr (dTst (dOp (eqD fun k => !k) (dLc (dItems (dVar 0)) (.nm 1) (dOr (dNot (dTru (dCB isiD (dCons (dVar 1) (dCons (dC (.ty "int")) dNil))))) (dTru (dCB isiD (dCons (dVar 1) (dCons (dC (.ty "bool")) dNil))))) (dVar 1) [1]) (dLst dNil))) (dTst (dOp leD (dIx (dVar 0) (dC (.int 1))) (dC (.int 0))))) (dRet (dC (.bl false))) dNext)
  (dRet (dOp (eqD id) (dCall g__law_ratio (dCons (dIx (dVar 0) (dC (.int 0))) (dCons (dIx (dVar 0) (dC (.int 1))) dNil))) (dVar 0)))))
theorem l__law_is_ratio : ∀ ds R E M, g__law_is_ratio ds R E M → ds.length = 1 := by
  rintro ds R E M ⟨_, rfl, -⟩; rfl
theorem u__law_is_ratio {q : Rat} {R : PD} {E : Ex → MS → Prop} {M : MS} (hz : Sz 4000 q) (k : R (.bl true) M) : g__law_is_ratio [eF q] R E M := ⟨_, rfl, hz, k⟩
theorem h__law_is_ratio : Hg g__law_is_ratio tb__law_is_ratio n__law_is_ratio := by
  rintro ds R E M ⟨q, rfl, hz, k⟩
  unfold tb__law_is_ratio
  have d0 := q.den_pos
  unfold eF
  walk_at "dn"
  rw [if_neg (by decide), if_neg (by decide)]
  walk_at "dd"
  refine ⟨by decide, eqD_gen okP_nil okP_nil ?_⟩
  rw [show PyData.eqv (pd (D.lst [])) (pd (D.lst [])) = true by simp [pd, pds, PyData.eqv, PyData.eqvAll]]
  try walk_at "dn"
  rw [if_neg (by omega)]
  try walk_at "dn"
  refine u__law_ratio (by omega) (hz.num.mono (by decide)) (hz.den.mono (by decide)) ?_
  rw [Rat.num_divInt_den]
  exact eq_eF (p := q) (q := q) (by rw [decide_eq_true rfl]; exact Rw.of k)
theorem atX_div {p q : Pt} {y : Rat} (h : p.2 ≠ q.2) : Rat.divInt (p.1 * (q.2 - p.2) * y.den + (y.num - p.2 * y.den) * (q.1 - p.1)) ((q.2 - p.2) * y.den) = atX p q y := by
  have d0 : ((q.2 - p.2) * (y.den : Int)) ≠ 0 := Int.mul_ne_zero (by omega) (den_ne y)
  have d1 : (((q.2 - p.2) * (y.den : Int) : Int) : Rat) ≠ 0 := fun z => d0 (Rat.intCast_inj.mp z)
  unfold atX
  rw [divI, divI]
  have e1 : (((q.1 - p.1) * (y.num - p.2 * y.den) : Int) : Rat) / (((q.2 - p.2) * (y.den : Int) : Int) : Rat) * (((q.2 - p.2) * (y.den : Int) : Int) : Rat) = (((q.1 - p.1) * (y.num - p.2 * y.den) : Int) : Rat) := Rat.div_mul_cancel d1
  have e2 : ((p.1 * (q.2 - p.2) * y.den + (y.num - p.2 * y.den) * (q.1 - p.1) : Int) : Rat) / (((q.2 - p.2) * (y.den : Int) : Int) : Rat) * (((q.2 - p.2) * (y.den : Int) : Int) : Rat) = ((p.1 * (q.2 - p.2) * y.den + (y.num - p.2 * y.den) * (q.1 - p.1) : Int) : Rat) := Rat.div_mul_cancel d1
  have e3 : ((p.1 * (q.2 - p.2) * y.den + (y.num - p.2 * y.den) * (q.1 - p.1) : Int) : Rat) = (p.1 : Rat) * (((q.2 - p.2) * (y.den : Int) : Int) : Rat) + (((q.1 - p.1) * (y.num - p.2 * y.den) : Int) : Rat) := by push_cast; grind
  rw [e3] at e2 ⊢
  generalize (((q.1 - p.1) * (y.num - p.2 * y.den) : Int) : Rat) = n at *
  generalize (((q.2 - p.2) * (y.den : Int) : Int) : Rat) = d at *
  have : (((p.1 : Rat) * d + n) / d - ((p.1 : Rat) + n / d)) * d = 0 := by grind
  rcases Rat.mul_eq_zero.mp this with z | z
  · grind
  · exact absurd z d1
def g__law_x : G := fun ds R E M => ∃ (s : Pt × Pt) (y : Rat), ds = [eSide s, eF y] ∧ (PtB s.1) ∧ (PtB s.2) ∧ (s.1.2 ≠ s.2.2) ∧ (Sz 100 y) ∧ (R (eF (atW s y)) M)
abbrev n__law_x : List Str := ["side", "y", "ax", "ay", "bx", "by"]
def tb__law_x : DTS :=
  (dSeq (dAsg (.tp [(.tp [(.nm 2), (.nm 3)]), (.tp [(.nm 4), (.nm 5)])]) (dVar 0))
  (dRet (dCall g__law_ratio (dCons (dOp addD (dOp mulD (dOp mulD (dVar 2) (dOp subD (dVar 5) (dVar 3))) (dIx (dVar 1) (dC (.int 1)))) (dOp mulD (dOp subD (dIx (dVar 1) (dC (.int 0))) (dOp mulD (dVar 3) (dIx (dVar 1) (dC (.int 1))))) (dOp subD (dVar 4) (dVar 2)))) (dCons (dOp mulD (dOp subD (dVar 5) (dVar 3)) (dIx (dVar 1) (dC (.int 1)))) dNil)))))
theorem l__law_x : ∀ ds R E M, g__law_x ds R E M → ds.length = 2 := by
  rintro ds R E M ⟨_, _, rfl, -⟩; rfl
theorem u__law_x {s : Pt × Pt} {y : Rat} {R : PD} {E : Ex → MS → Prop} {M : MS} (h1 : PtB s.1) (h2 : PtB s.2) (hn : s.1.2 ≠ s.2.2) (hy : Sz 100 y) (k : R (eF (atW s y)) M) : g__law_x [eSide s, eF y] R E M := ⟨_, _, rfl, h1, h2, hn, hy, k⟩
theorem h__law_x : Hg g__law_x tb__law_x n__law_x := by
  rintro ds R E M ⟨s, y, rfl, h1, h2, hn, hy, k⟩
  unfold tb__law_x
  obtain ⟨p, q⟩ := s
  have b1 := h2.2.sub h1.2
  have b2 := h2.1.sub h1.1
  have b3 := (h1.1.mul b1).mul hy.den
  have b0 := (hy.num.mono (m := 120) (by decide)).sub (h1.2.mul hy.den)
  have b4 := b0.mul b2
  have b5 := (b3.mono (m := 160) (by decide)).add (b4.mono (m := 160) (by decide))
  have b6 := b1.mul hy.den
  unfold eSide ePt eF
  walk_at "dn"
  refine ⟨h1.1.cmul b1 (by decide) (by decide), (h1.1.mul b1).cmul hy.den (by decide) (by decide), h1.2.cmul hy.den (by decide) (by decide), b0.cmul b2 (by decide) (by decide), b1.cmul hy.den (by decide) (by decide), ?_⟩
  refine u__law_ratio (Int.mul_ne_zero (by simp only at hn; omega) (den_ne y)) (b5.mono (by decide)) (b6.mono (by decide)) ?_
  rw [atX_div hn]
  exact Rw.of k
theorem q_inB2 {f : Bool → Bool} {x y : Bool} {R : PD} {M : MS} (h : R (.bl (f (!(x && y)))) M) : inG f (.bl false) (.lst [.bl x, .bl y]) R M := by
  refine ⟨.bl false, [.bl x, .bl y], sees_self rfl, sees_self rfl, rfl, rfl, by simp [pd, SeqAt.shaped, PyData.canLay0, PyData.depth], by simp [pd, pds, SeqAt.shaped, PyData.canLay0, PyData.canLayAll0, PyData.depth, PyData.depthAll], ?_⟩
  have e : ((pds [D.bl x, D.bl y]).any fun z => PyData.eqv z (pd (.bl false))) = !(x && y) := by
    cases x <;> cases y <;> simp [pds, pd, PyData.eqv]
  rw [e]
  exact h

def g__law_between_right : G := fun ds R E M => ∃ (P : List (List Pt)) (l lo r hi : Int) (a b : Rat), ds = [ePath P, eI4 l lo r hi, eF a, eF b] ∧ (PathB P) ∧ (Clear (slopW P) (some (l, r)) a b) ∧ (Sz 100 a) ∧ (Sz 100 b) ∧ (Bd 20 l) ∧ (Bd 20 r) ∧ (R (.bl true) M)
abbrev n__law_between_right : List Str := ["path", "edges", "low", "high", "side", "one", "left", "right", "known", "other", "least", "most", "edge", "past", "far_off", "x"]
def tb__law_between_right_b1 : DTS :=
  (dSeq (dPar 10 11 (dCons (dTup (dCons (dCB minD (dCons (dIx (dIx (dVar 4) (dC (.int 0))) (dC (.int 1))) (dCons (dIx (dIx (dVar 4) (dC (.int 1))) (dC (.int 1))) dNil))) (dCons (dC (.int 1)) dNil))) (dCons (dTup (dCons (dCB maxD (dCons (dIx (dIx (dVar 4) (dC (.int 0))) (dC (.int 1))) (dCons (dIx (dIx (dVar 4) (dC (.int 1))) (dC (.int 1))) dNil))) (dCons (dC (.int 1)) dNil))) dNil)))
  (dIfS (dAnd (dTst (dOp (eqD fun k => !k) (dVar 10) (dVar 11))) (dAnd (dTst (dOp ltD (dCall g__law_over (dCons (dVar 10) (dCons (dVar 3) dNil))) (dC (.int 0)))) (dTst (dOp gtD (dCall g__law_over (dCons (dVar 11) (dCons (dVar 2) dNil))) (dC (.int 0)))))) (dSeq (dIfS (dOr (dTst (dOp gtD (dCall g__law_over (dCons (dVar 10) (dCons (dVar 2) dNil))) (dC (.int 0)))) (dTst (dOp ltD (dCall g__law_over (dCons (dVar 11) (dCons (dVar 3) dNil))) (dC (.int 0))))) (dRet (dC (.bl false))) dNext)
  (dSeq (dSet 12 (dTup (dCons (dCall g__law_x (dCons (dVar 4) (dCons (dVar 2) dNil))) (dCons (dCall g__law_x (dCons (dVar 4) (dCons (dVar 3) dNil))) dNil))))
  (dSeq (dSet 13 (dLc (dItems (dVar 12)) (.nm 15) dYes (dOp leD (dCall g__law_over (dCons (dVar 15) (dCons (dVar 6) dNil))) (dC (.int 0))) [15]))
  (dSeq (dSet 14 (dLc (dItems (dVar 12)) (.nm 15) dYes (dOp geD (dCall g__law_over (dCons (dVar 15) (dCons (dVar 7) dNil))) (dC (.int 0))) [15]))
  (dIfS (dAnd (dTst (dOp inD (dC (.bl false)) (dVar 13))) (dTst (dOp inD (dC (.bl false)) (dVar 14)))) (dSeq (dIfS (dTst (dOp (eqD fun k => !k) (dLc (dItems (dVar 12)) (.nm 15) (dOr (dTst (dOp ltD (dCall g__law_over (dCons (dVar 15) (dCons (dVar 6) dNil))) (dC (.int 0)))) (dTst (dOp gtD (dCall g__law_over (dCons (dVar 15) (dCons (dVar 7) dNil))) (dC (.int 0))))) (dVar 15) [15]) (dLst dNil))) (dRet (dC (.bl false))) dNext)
  (dExpr (dMt appD (dVar 8) (dCons (dVar 12) dNil)))) dNext))))) dNext))
def tb__law_between_right_b2 : DTS :=
  (dFor (dItems (dVar 8)) (.nm 9) (dIfS (dTst (dOp ltD (dOp mulD (dCall g__law_over (dCons (dIx (dVar 5) (dC (.int 0))) (dCons (dIx (dVar 9) (dC (.int 0))) dNil))) (dCall g__law_over (dCons (dIx (dVar 5) (dC (.int 1))) (dCons (dIx (dVar 9) (dC (.int 1))) dNil)))) (dC (.int 0)))) (dRet (dC (.bl false))) dNext))
def tb__law_between_right : DTS :=
  (dSeq (dAsg (.tp [(.nm 6), (.nm 7), (.nm 8)]) (dTup (dCons (dTup (dCons (dIx (dVar 1) (dC (.int 0))) (dCons (dC (.int 1)) dNil))) (dCons (dTup (dCons (dIx (dVar 1) (dC (.int 2))) (dCons (dC (.int 1)) dNil))) (dCons (dLstN dNil) dNil)))))
  (dSeq (dFor (dItems (dCall g__law_sides (dCons (dVar 0) dNil))) (.nm 4) tb__law_between_right_b1)
  (dSeq (dFrz 8 (dFor (dItems (dVar 8)) (.nm 5) tb__law_between_right_b2))
  (dRet (dC (.bl true))))))
theorem l__law_between_right : ∀ ds R E M, g__law_between_right ds R E M → ds.length = 4 := by
  rintro ds R E M ⟨_, _, _, _, _, _, _, rfl, -⟩; rfl
theorem u__law_between_right {P : List (List Pt)} {l lo r hi : Int} {a b : Rat} {R : PD} {E : Ex → MS → Prop} {M : MS} (hP : PathB P) (C : Clear (slopW P) (some (l, r)) a b) (za : Sz 100 a) (zb : Sz 100 b) (bl : Bd 20 l) (br : Bd 20 r) (k : R (.bl true) M) : g__law_between_right [ePath P, eI4 l lo r hi, eF a, eF b] R E M := ⟨_, _, _, _, _, _, _, rfl, hP, C, za, zb, bl, br, k⟩
/-- an edge that the law has come to know *)-/
def Kn (P : List (List Pt)) (l r : Int) (a b : Rat) (e : Ed2) : Prop := ∃ s, s ∈ slopW P ∧ e = edW s.1 a b ∧ thruW s.1 a b ∧ ((l : Rat) ≤ atW s.1 a ∧ (l : Rat) ≤ atW s.1 b) ∧ (atW s.1 a ≤ r ∧ atW s.1 b ≤ r)
theorem slop_of {P : List (List Pt)} {s : Pt × Pt} (h : s ∈ sidesP P) (hn : mnY s ≠ mxY s) : (s, sgnS s.1 s.2) ∈ slopW P := by
  refine List.mem_map.mpr ⟨s, List.mem_filter.mpr ⟨h, decide_eq_true ?_⟩, rfl⟩
  unfold mnY mxY mnI mxI at hn
  unfold sgnS
  split <;> split <;> first | omega | (exfalso; apply hn; split <;> split <;> omega)
theorem btw_b1 {P : List (List Pt)} {s : Pt × Pt} {l r : Int} {a b : Rat} {K : List Ed2} {kn : Addr} {De : DEnds} {M : MS} {d0 d1 d5 d9 d10 d11 d12 d13 d14 d15 : Option D} (hP : PathB P) (hs : s ∈ sidesP P) (C : Clear (slopW P) (some (l, r)) a b) (za : Sz 100 a) (zb : Sz 100 b) (bl : Bd 20 l) (br : Bd 20 r)
    (hK : K.length ≤ 10000) (k : ∀ (K2 : List Ed2) (d10 d11 d12 d13 d14 : Option D), K2.length ≤ K.length + 1 → (∀ e, e ∈ K2 → e ∈ K ∨ Kn P l r a b e) → De.nx [d0, d1, some (eF a), some (eF b), some (eSide s), d5, some (D.tup [D.int l, D.int 1]), some (D.tup [D.int r, D.int 1]), some (.ref kn), d9, d10, d11, d12, d13, d14, d15] (um M kn (.lst (K2.map eE2)))) :
    tb__law_between_right_b1 De [d0, d1, some (eF a), some (eF b), some (eSide s), d5, some (D.tup [D.int l, D.int 1]), some (D.tup [D.int r, D.int 1]), some (.ref kn), d9, d10, d11, d12, d13, d14, d15] (um M kn (.lst (K.map eE2))) := by
  obtain ⟨h1, h2⟩ := hP.side hs
  have zl : Sz 20 ((mnY s : Int) : Rat) := sz_int' (mnY_b h1 h2).1 (by decide)
  have zh : Sz 20 ((mxY s : Int) : Rat) := sz_int' (mnY_b h1 h2).2 (by decide)
  have zL : Sz 20 (l : Rat) := sz_int' bl (by decide)
  have zR : Sz 20 (r : Rat) := sz_int' br (by decide)
  unfold tb__law_between_right_b1
  unfold eSide ePt at k ⊢
  walk_at "dn"
  refine ⟨by decide, by decide, eq_eF (p := ((mnY s : Int) : Rat)) (q := ((mxY s : Int) : Rat)) ?_⟩
  by_cases c0 : ((mnY s : Int) : Rat) = ((mxY s : Int) : Rat)
  · rw [decide_eq_true c0]
    try walk_at "dn"
    exact k K _ _ _ _ _ (by omega) fun e he => .inl he
  rw [decide_eq_false c0]
  have hne : mnY s ≠ mxY s := fun z => c0 (by rw [z])
  try walk_at "dn"
  refine u__law_over (p := ((mnY s : Int) : Rat)) (q := b) (n := 20) (m := 100) zl zb (by decide) ?_
  try walk_at "dn"
  by_cases c1 : ((mnY s : Int) : Rat) < b
  case neg =>
    rw [if_neg (fun z => c1 (ovr_neg.mp z))]
    try walk_at "dn"
    exact k K _ _ _ _ _ (by omega) fun e he => .inl he
  rw [if_pos (ovr_neg.mpr c1)]
  try walk_at "dn"
  refine u__law_over (p := ((mxY s : Int) : Rat)) (q := a) (n := 20) (m := 100) zh za (by decide) ?_
  try walk_at "dn"
  by_cases c2 : a < ((mxY s : Int) : Rat)
  case neg =>
    rw [if_neg (fun z => c2 (ovr_pos.mp z))]
    try walk_at "dn"
    exact k K _ _ _ _ _ (by omega) fun e he => .inl he
  rw [if_pos (ovr_pos.mpr c2)]
  try walk_at "dn"
  have hsl := slop_of hs hne
  have hn := (slop_mem hsl).2.2
  have ht : thruW s a b := (thru_or C hsl).resolve_right (fun z => by rcases z with z | z <;> (simp only at z; grind))
  refine u__law_over (p := ((mnY s : Int) : Rat)) (q := a) (n := 20) (m := 100) zl za (by decide) ?_
  try walk_at "dn"
  rw [if_neg (fun z => by have := ovr_pos.mp z; have := ht.1; grind)]
  try walk_at "dn"
  refine u__law_over (p := ((mxY s : Int) : Rat)) (q := b) (n := 20) (m := 100) zh zb (by decide) ?_
  try walk_at "dn"
  rw [if_neg (fun z => by have := ovr_neg.mp z; have := ht.2; grind)]
  try walk_at "dn"
  refine u__law_x (s := s) h1 h2 hn za ?_
  try walk_at "dn"
  refine u__law_x (s := s) h1 h2 hn zb ?_
  have sa : Sz 300 (atW s a) := sz_at h1 h2 za hn
  have sb : Sz 300 (atW s b) := sz_at h1 h2 zb hn
  have oneL := hand_one (x := l) C (.inl rfl) hsl hn ht
  have oneR := hand_one (x := r) C (.inr rfl) hsl hn ht
  have kn1 : ((l : Rat) ≤ atW s a ∧ (l : Rat) ≤ atW s b) → (atW s a ≤ r ∧ atW s b ≤ r) → Kn P l r a b (atW s a, atW s b) := fun g1 g2 => ⟨_, hsl, rfl, ht, g1, g2⟩
  simp only at oneL oneR
  generalize atW s a = xa at *
  generalize atW s b = xb at *
  try walk_at "dn"
  refine ⟨by decide, ?_⟩
  have szm : ∀ q, q ∈ [xa, xb] → Sz 300 q := fun q hq => by
    simp only [List.mem_cons, List.not_mem_nil, or_false] at hq
    rcases hq with rfl | rfl <;> assumption
  refine lc_mapG (ps := [xa, xb]) eF (fun q => D.bl (decide (q ≤ (l : Rat)))) (fun q hq R kk => ?_) (slz (by simp)) ?_
  · walk_at "dn"
    refine u__law_over (p := q) (q := (l : Rat)) (n := 300) (m := 20) (szm q hq) zL (by decide) ?_
    try walk_at "dn"
    rw [show decide (ovr q (l : Rat) ≤ 0) = decide (q ≤ (l : Rat)) from decide_eq_decide.mpr ovr_le]
    exact kk
  try walk_at "dn"
  refine lc_mapG (ps := [xa, xb]) eF (fun q => D.bl (decide ((r : Rat) ≤ q))) (fun q hq R kk => ?_) (slz (by simp)) ?_
  · walk_at "dn"
    refine u__law_over (p := q) (q := (r : Rat)) (n := 300) (m := 20) (szm q hq) zR (by decide) ?_
    try walk_at "dn"
    rw [show decide (ovr q (r : Rat) ≥ 0) = decide ((r : Rat) ≤ q) from decide_eq_decide.mpr ovr_ge]
    exact kk
  try walk_at "dn"
  refine q_inB2 ?_
  try walk_at "dn"
  by_cases gl : xa ≤ l ∧ xb ≤ l
  · rw [show (decide (xa ≤ (l : Rat)) && decide (xb ≤ (l : Rat))) = true by simp only [gl.1, gl.2, decide_true, Bool.and_self]]
    try walk_at "dn"
    exact k K _ _ _ _ _ (by omega) fun e he => .inl he
  have hL := oneL.resolve_left gl
  rw [show (decide (xa ≤ (l : Rat)) && decide (xb ≤ (l : Rat))) = false by
    cases q : (decide (xa ≤ (l : Rat)) && decide (xb ≤ (l : Rat))) with
    | false => rfl
    | true => rw [Bool.and_eq_true] at q; exact absurd ⟨of_decide_eq_true q.1, of_decide_eq_true q.2⟩ gl]
  try walk_at "dn"
  refine q_inB2 ?_
  try walk_at "dn"
  by_cases gr : (r : Rat) ≤ xa ∧ (r : Rat) ≤ xb
  · rw [show (decide ((r : Rat) ≤ xa) && decide ((r : Rat) ≤ xb)) = true by simp only [gr.1, gr.2, decide_true, Bool.and_self]]
    try walk_at "dn"
    exact k K _ _ _ _ _ (by omega) fun e he => .inl he
  have hR := oneR.resolve_right gr
  rw [show (decide ((r : Rat) ≤ xa) && decide ((r : Rat) ≤ xb)) = false by
    cases q : (decide ((r : Rat) ≤ xa) && decide ((r : Rat) ≤ xb)) with
    | false => rfl
    | true => rw [Bool.and_eq_true] at q; exact absurd ⟨of_decide_eq_true q.1, of_decide_eq_true q.2⟩ gr]
  try walk_at "dn"
  have inb : ∀ q, q ∈ [xa, xb] → (l : Rat) ≤ q ∧ q ≤ (r : Rat) := fun q hq => by
    simp only [List.mem_cons, List.not_mem_nil, or_false] at hq
    rcases hq with rfl | rfl
    · exact ⟨hL.1, hR.1⟩
    · exact ⟨hL.2, hR.2⟩
  refine lc_filtG (ds := [xa, xb]) eF eF (fun _ => false) (fun q hq Ky Kn hst => ?_) (slz (by simp)) ?_
  · rw [if_neg (by decide)] at hst
    obtain ⟨i1, i2⟩ := inb q hq
    walk_at "dn"
    refine u__law_over (p := q) (q := (l : Rat)) (n := 300) (m := 20) (szm q hq) zL (by decide) ?_
    try walk_at "dn"
    rw [if_neg (fun z => by have := ovr_neg.mp z; grind)]
    try walk_at "dn"
    refine u__law_over (p := q) (q := (r : Rat)) (n := 300) (m := 20) (szm q hq) zR (by decide) ?_
    try walk_at "dn"
    rw [if_neg (fun z => by have := ovr_pos.mp z; grind)]
    try walk_at "dn"
    exact hst
  rw [show ([xa, xb].filter fun _ => false) = [] from rfl, List.map_nil]
  refine ⟨by decide, eqD_gen okP_nil okP_nil ?_⟩
  rw [show PyData.eqv (pd (D.lst [])) (pd (D.lst [])) = true by simp [pd, pds, PyData.eqv, PyData.eqvAll]]
  try walk_at "dn"
  have kk := kn1 hL hR
  refine ⟨⟨_, rfl⟩, by rw [List.length_map]; exact slt (by omega), ?_⟩
  rw [show K.map eE2 ++ [D.tup [eF xa, eF xb]] = (K ++ [(xa, xb)]).map eE2 by rw [List.map_append]; rfl]
  refine k (K ++ [(xa, xb)]) _ _ _ _ _ (by rw [List.length_append]; simp) fun e he => ?_
  rcases List.mem_append.mp he with he | he
  · exact .inl he
  · rw [List.mem_singleton.mp he]; exact .inr kk
theorem at_btw {s : Pt × Pt} {a b y L R : Rat} (hn : s.1.2 ≠ s.2.2) (h1 : a < y) (h2 : y < b) (hl : L ≤ atW s a ∧ L ≤ atW s b) (hr : atW s a ≤ R ∧ atW s b ≤ R) : L ≤ atW s y ∧ atW s y ≤ R := by
  rw [atW_eq hn, atW_eq hn] at hl hr
  rw [atW_eq hn]
  generalize kW s = k at *
  rcases (show 0 ≤ k ∨ 0 ≤ -k by grind) with c | c
  · have m1 := Rat.mul_nonneg c (show 0 ≤ y - a by grind)
    have m2 := Rat.mul_nonneg c (show 0 ≤ b - y by grind)
    constructor <;> grind
  · have m1 := Rat.mul_nonneg c (show 0 ≤ y - a by grind)
    have m2 := Rat.mul_nonneg c (show 0 ≤ b - y by grind)
    constructor <;> grind
theorem kn_sz {P : List (List Pt)} {l r : Int} {a b : Rat} {e : Ed2} (hP : PathB P) (za : Sz 100 a) (zb : Sz 100 b) (h : Kn P l r a b e) : Sz 300 e.1 ∧ Sz 300 e.2 := by
  obtain ⟨s, hs, rfl, _⟩ := h
  obtain ⟨p1, p2, hn⟩ := slop_pts hP s hs
  exact ⟨sz_at p1 p2 za hn, sz_at p1 p2 zb hn⟩
theorem kn_ord {P : List (List Pt)} {l r : Int} {a b : Rat} {e f : Ed2} (C : Clear (slopW P) (some (l, r)) a b) (h : Kn P l r a b e) (g : Kn P l r a b f) : (e.1 ≤ f.1 ∧ e.2 ≤ f.2) ∨ (f.1 ≤ e.1 ∧ f.2 ≤ e.2) := by
  obtain ⟨s, hs, rfl, ht, hl, hr⟩ := h
  obtain ⟨t, gs, rfl, gt, gl, gr⟩ := g
  have hn := (slop_mem hs).2.2
  have gn := (slop_mem gs).2.2
  refine order_one C hs gs hn gn ht gt fun y y1 y2 => ?_
  exact ⟨decide_eq_true (at_btw hn y1 y2 hl hr), decide_eq_true (at_btw gn y1 y2 gl gr)⟩
theorem ovr_no {a b c d : Rat} (h : (a ≤ c ∧ b ≤ d) ∨ (c ≤ a ∧ d ≤ b)) : ¬ ovr a c * ovr b d < 0 := by
  unfold ovr
  rcases h with ⟨h1, h2⟩ | ⟨h1, h2⟩
  · rw [if_neg (show ¬ c < a by grind), if_neg (show ¬ d < b by grind)]
    split <;> split <;> decide
  · rw [if_neg (show ¬ a < c by grind), if_neg (show ¬ b < d by grind)]
    split <;> split <;> decide
theorem btw_b2 {P : List (List Pt)} {l r : Int} {a b : Rat} {K : List Ed2} {e : Ed2} {De : DEnds} {M : MS} {d0 d1 d2 d3 d4 d6 d7 d9 d10 d11 d12 d13 d14 d15 : Option D} (hP : PathB P) (C : Clear (slopW P) (some (l, r)) a b) (za : Sz 100 a) (zb : Sz 100 b)
    (hK : ∀ e, e ∈ K → Kn P l r a b e) (he : e ∈ K) (k : ∀ d9, De.nx [d0, d1, d2, d3, d4, some (eE2 e), d6, d7, some (.lst (K.map eE2)), d9, d10, d11, d12, d13, d14, d15] M) :
    tb__law_between_right_b2 De [d0, d1, d2, d3, d4, some (eE2 e), d6, d7, some (.lst (K.map eE2)), d9, d10, d11, d12, d13, d14, d15] M := by
  unfold tb__law_between_right_b2
  walk_at "dn"
  refine for_ind (fun its ρ M' => M' = M ∧ ∃ (suf : List Ed2) (d9 : Option D), (∀ f, f ∈ suf → f ∈ K) ∧ its = suf.map eE2 ∧ ρ = [d0, d1, d2, d3, d4, some (eE2 e), d6, d7, some (.lst (K.map eE2)), d9, d10, d11, d12, d13, d14, d15]) ?_ ?_ ⟨rfl, K, _, fun _ h => h, rfl, rfl⟩
  · rintro d its ρ M' Kx ⟨rfl, suf, d9, hs, e1, rfl⟩ hk
    cases suf with
    | nil => cases e1
    | cons f suf =>
      cases e1
      have hf := hs f (.head _)
      obtain ⟨s1, s2⟩ := kn_sz hP za zb (hK e he)
      obtain ⟨t1, t2⟩ := kn_sz hP za zb (hK f hf)
      have no := ovr_no (kn_ord C (hK e he) (hK f hf))
      have hk2 := hk _ _ ⟨rfl, suf, some (eE2 f), fun g hg => hs g (.tail _ hg), rfl, rfl⟩
      unfold eE2 at hk2 ⊢
      walk_at "dn"
      refine u__law_over (p := e.1) (q := f.1) (n := 300) (m := 300) s1 t1 (by decide) ?_
      try walk_at "dn"
      refine u__law_over (p := e.2) (q := f.2) (n := 300) (m := 300) s2 t2 (by decide) ?_
      try walk_at "dn"
      have bo : ∀ p q : Rat, Bd 2 (ovr p q) := fun p q => by unfold ovr; split <;> split <;> exact bd_of (by decide)
      refine ⟨(bo _ _).cmul (bo _ _) (by decide) (by decide), ?_⟩
      rw [if_neg no]
      try walk_at "dn"
      exact hk2
  · rintro ρ M' ⟨rfl, suf, d9, hs, e1, rfl⟩
    exact k _
theorem h__law_between_right : Hg g__law_between_right tb__law_between_right n__law_between_right := by
  rintro ds R E M ⟨P, l, lo, r, hi, a, b, rfl, hP, C, za, zb, bl, br, k⟩
  unfold tb__law_between_right
  have hB := fun s K kn De M' d0 d1 d5 d9 d10 d11 d12 d13 d14 d15 hs hK k => btw_b1 (P := P) (s := s) (l := l) (r := r) (a := a) (b := b) (K := K) (kn := kn) (De := De) (M := M') (d0 := d0) (d1 := d1) (d5 := d5) (d9 := d9) (d10 := d10) (d11 := d11) (d12 := d12) (d13 := d13) (d14 := d14) (d15 := d15) hP hs C za zb bl br hK k
  have hB2 := fun K e De M' d0 d1 d2 d3 d4 d6 d7 d9 d10 d11 d12 d13 d14 d15 hK he k => btw_b2 (P := P) (l := l) (r := r) (a := a) (b := b) (K := K) (e := e) (De := De) (M := M') (d0 := d0) (d1 := d1) (d2 := d2) (d3 := d3) (d4 := d4) (d6 := d6) (d7 := d7) (d9 := d9) (d10 := d10) (d11 := d11) (d12 := d12) (d13 := d13) (d14 := d14) (d15 := d15) hP C za zb hK he k
  generalize tb__law_between_right_b1 = t1 at hB ⊢
  generalize tb__law_between_right_b2 = t2 at hB2 ⊢
  have hl := hP.1
  have hl2 : (sidesP P).length ≤ 10000 := by rw [sidesP_len]; exact hl
  unfold eI4
  walk_at "dn"
  refine ⟨by decide, by decide, by decide, fun kn hkn => ⟨by decide, ?_⟩⟩
  refine u__law_sides hl ?_
  try walk_at "dn"
  refine for_ind (fun its ρ M' => ∃ (suf : List (Pt × Pt)) (K : List Ed2) (d4 d9 d10 d11 d12 d13 d14 d15 : Option D), (∀ s, s ∈ suf → s ∈ sidesP P) ∧ its = suf.map eSide ∧ K.length + suf.length ≤ 10000 ∧ (∀ e, e ∈ K → Kn P l r a b e) ∧ M' = um M kn (.lst (K.map eE2)) ∧
    ρ = [some (ePath P), some (D.tup [D.int l, D.int lo, D.int r, D.int hi]), some (eF a), some (eF b), d4, none, some (D.tup [D.int l, D.int 1]), some (D.tup [D.int r, D.int 1]), some (D.ref kn), d9, d10, d11, d12, d13, d14, d15]) ?_ ?_ ⟨sidesP P, [], _, _, _, _, _, _, _, _, fun _ h => h, rfl, by simp only [List.length_nil]; omega, (fun _ h => (nomatch h)), rfl, rfl⟩
  · rintro d its ρ M' Kx ⟨suf, K, d4, d9, d10, d11, d12, d13, d14, d15, hs, e1, hlen, hK, rfl, rfl⟩ hk
    cases suf with
    | nil => cases e1
    | cons s suf =>
      cases e1
      rw [List.length_cons] at hlen
      walk_at "dn"
      refine hB s K kn _ M _ _ _ _ _ _ _ _ _ _ (hs s (.head _)) (by omega) fun K2 d10 d11 d12 d13 d14 h1 h2 => hk _ _ ⟨suf, K2, _, _, _, _, _, _, _, _, fun t ht => hs t (.tail _ ht), rfl, by omega, fun e he => ?_, rfl, rfl⟩
      rcases h2 e he with h | h
      · exact hK e h
      · exact h
  · rintro ρ M' ⟨suf, K, d4, d9, d10, d11, d12, d13, d14, d15, hs, e1, hlen, hK, rfl, rfl⟩
    walk_at "dn"
    refine for_ind (fun its ρ M' => M' = dm M kn ∧ ∃ (suf : List Ed2) (d5 d9 : Option D), (∀ f, f ∈ suf → f ∈ K) ∧ its = suf.map eE2 ∧ ρ = [some (ePath P), some (D.tup [D.int l, D.int lo, D.int r, D.int hi]), some (eF a), some (eF b), d4, d5, some (D.tup [D.int l, D.int 1]), some (D.tup [D.int r, D.int 1]), some (D.lst (K.map eE2)), d9, d10, d11, d12, d13, d14, d15]) ?_ ?_ ⟨rfl, K, _, _, fun _ h => h, rfl, rfl⟩
    · rintro d its ρ M' Kx ⟨rfl, suf, d5, d9, hs, e1, rfl⟩ hk
      cases suf with
      | nil => cases e1
      | cons f suf =>
        cases e1
        walk_at "dn"
        exact hB2 K f _ _ _ _ _ _ _ _ _ _ _ _ _ _ _ _ hK (hs f (.head _)) fun d9 => hk _ _ ⟨rfl, suf, _, _, fun g hg => hs g (.tail _ hg), rfl, rfl⟩
    · rintro ρ M' ⟨rfl, suf, d5, d9, hs, e1, rfl⟩
      walk_at "dn"
      refine Rw.le k fun y u hy => ?_
      rw [dm_ne (fun z => by rw [z, hkn] at hy; cases hy)]
      exact hy

/-! k37: the law *)-/
theorem pathB99 {P : List (List Pt)} {m : Int} (h : Pth m P) (hm : m ≤ 40) : PathB P := by
  refine ⟨by have := h.many; omega, fun r hr p hp => ?_⟩
  obtain ⟨⟨h1, h2⟩, h3, h4⟩ := h.ok r hr p hp
  exact ⟨by unfold Bd; omega, by unfold Bd; omega⟩
theorem hts_two {sd : List Sd} {lo hi : Int} {ed : Option (Int × Int)} (h : lo < hi) : 2 ≤ (heightsW sd lo hi ed).length := by
  have h1 := hts_head (sd := sd) (ed := ed) (show lo ≤ hi by omega)
  have h2 := hts_last (sd := sd) (ed := ed) (show lo ≤ hi by omega)
  cases e : heightsW sd lo hi ed with
  | nil => rw [e] at h1; cases h1
  | cons x t =>
    cases t with
    | nil =>
      rw [e] at h1 h2
      cases h1
      have e2 : (lo : Rat) = (hi : Rat) := by simpa using h2
      have := Rat.intCast_inj.mp e2
      omega
    | cons y t => simp only [List.length_cons]; omega
def g__law_right : G := fun ds R E M => ∃ (P : List (List Pt)) (c r s i j : Int), ds = [ePath P, ePg c r s, eI2 i j] ∧ (PathB P) ∧ ((slopW P).length ≤ 40) ∧ (CellOk c r s i j) ∧ (R (.bl true) M)
abbrev n__law_right : List Str := ["path", "page", "cell", "told", "edges", "one", "other"]
def tb__law_right : DTS :=
  (dSeq (dPar 3 4 (dCons (dCall g_heights_in (dCons (dVar 0) (dCons (dVar 1) (dCons (dVar 2) dNil)))) (dCons (dCall g__law_edges (dCons (dVar 1) (dCons (dVar 2) dNil))) dNil)))
  (dSeq (dIfS (dOr (dNot (dTru (dCB isiD (dCons (dVar 3) (dCons (dC (.ty "tuple")) dNil))))) (dTst (dOp (eqD fun k => !k) (dLc (dItems (dVar 3)) (.nm 5) (dNot (dTru (dCall g__law_is_ratio (dCons (dVar 5) dNil)))) (dVar 5) [5]) (dLst dNil)))) (dRet (dC (.bl false))) dNext)
  (dSeq (dIfS (dOr (dTst (dOp ltD (dCB lenD (dCons (dVar 3) dNil)) (dC (.int 2)))) (dOr (dTst (dOp (eqD fun k => !k) (dIx (dVar 3) (dC (.int 0))) (dTup (dCons (dIx (dVar 4) (dC (.int 1))) (dCons (dC (.int 1)) dNil))))) (dTst (dOp (eqD fun k => !k) (dIx (dVar 3) (dUn negD (dC (.int 1)))) (dTup (dCons (dIx (dVar 4) (dC (.int 3))) (dCons (dC (.int 1)) dNil))))))) (dRet (dC (.bl false))) dNext)
  (dSeq (dFor (dZip (dCons (dVar 3) (dCons (dSl (dVar 3) (dPart (dC (.int 1))) dNoPart) dNil))) (.tp [(.nm 5), (.nm 6)]) (dIfS (dOr (dTst (dOp geD (dCall g__law_over (dCons (dVar 5) (dCons (dVar 6) dNil))) (dC (.int 0)))) (dNot (dTru (dCall g__law_between_right (dCons (dVar 0) (dCons (dVar 4) (dCons (dVar 5) (dCons (dVar 6) dNil)))))))) (dRet (dC (.bl false))) dNext))
  (dRet (dC (.bl true)))))))
theorem l__law_right : ∀ ds R E M, g__law_right ds R E M → ds.length = 3 := by
  rintro ds R E M ⟨_, _, _, _, _, _, rfl, -⟩; rfl
theorem u__law_right {P : List (List Pt)} {c r s i j : Int} {R : PD} {E : Ex → MS → Prop} {M : MS} (hP : PathB P) (hl : (slopW P).length ≤ 40) (hc : CellOk c r s i j) (k : R (.bl true) M) : g__law_right [ePath P, ePg c r s, eI2 i j] R E M := ⟨_, _, _, _, _, _, rfl, hP, hl, hc, k⟩
theorem h__law_right : Hg g__law_right tb__law_right n__law_right := by
  rintro ds R E M ⟨P, c, r, s, i, j, rfl, hP, hl, hc, k⟩
  unfold tb__law_right
  have hs : SdB (slopW P) := ⟨hl, slop_pts hP⟩
  have s0 := hc.s0
  obtain ⟨b1, b2, b3, b4⟩ := cell_bd hc
  walk_at "dn"
  refine u_heights_in (c := c) (r := r) (s := s) (i := i) (j := j) hP hl hc ?_
  try walk_at "dn"
  refine u__law_edges (c := c) (r := r) (s := s) (i := i) (j := j) hc ?_
  have two := hts_two (sd := slopW P) (ed := some (i * s, i * s + s)) (show j * s < j * s + s by omega)
  have hd := hts_head (sd := slopW P) (ed := some (i * s, i * s + s)) (show j * s ≤ j * s + s by omega)
  have hla := hts_last (sd := slopW P) (ed := some (i * s, i * s + s)) (show j * s ≤ j * s + s by omega)
  have hz : ∀ q, q ∈ heightsW (slopW P) (j * s) (j * s + s) (some (i * s, i * s + s)) → Sz 100 q := fun q hq => heights_sz (ed := some (i * s, i * s + s)) hs b2 b4 ⟨b1, b3⟩ hq
  have hmany : (heightsW (slopW P) (j * s) (j * s + s) (some (i * s, i * s + s))).length ≤ 10000 := by
    refine Nat.le_trans (risW_len _) ?_
    have h1 := foundW_len (some (i * s, i * s + s)) (slopW P) []
    have h3 := Nat.mul_le_mul hl (show 4 + ([] : List Sd).length + (slopW P).length ≤ 44 by simp only [List.length_nil]; omega)
    have h4 : (withinW (slopW P) (j * s) (j * s + s) (some (i * s, i * s + s))).length ≤ 2000 := Nat.le_trans (List.length_filter_le _ _) (Nat.le_trans (List.length_filterMap_le _ _) (by omega))
    rw [List.length_append]
    simp only [List.length_cons, List.length_nil]
    omega
  have hclr := fun a b h => clear_hts (sd := slopW P) (ed := some (i * s, i * s + s)) (a := a) (b := b) (show j * s ≤ j * s + s by omega) h
  have hris : Ris (heightsW (slopW P) (j * s) (j * s + s) (some (i * s, i * s + s))) := risW_ris _
  generalize heightsW (slopW P) (j * s) (j * s + s) (some (i * s, i * s + s)) = hts at *
  unfold eFs eI4
  try walk_at "dn"
  rw [if_neg (by decide)]
  have hlen : hts.length ≤ 10000 := hmany
  refine lc_filtG (ds := hts) eF eF (fun _ => false) (fun q hq Ky Kn hst => ?_) (slz (by omega)) ?_
  · rw [if_neg (by decide)] at hst
    walk_at "dn"
    refine u__law_is_ratio ((hz q hq).mono (by decide)) ?_
    try walk_at "dn"
    exact hst
  rw [show (hts.filter fun _ => false) = [] by simp, List.map_nil]
  refine ⟨by decide, eqD_gen okP_nil okP_nil ?_⟩
  rw [show PyData.eqv (pd (D.lst [])) (pd (D.lst [])) = true by simp [pd, pds, PyData.eqv, PyData.eqvAll]]
  try walk_at "dn"
  rw [if_neg (by rw [List.length_map]; omega)]
  have e0 : (hts.map eF)[0]? = some (eF ((j * s : Int) : Rat)) := by
    rw [List.getElem?_map, ← List.head?_eq_getElem?, hd]; rfl
  refine it_at 0 rfl e0 ?_
  refine ⟨by decide, eq_eF (p := ((j * s : Int) : Rat)) (q := ((j * s : Int) : Rat)) ?_⟩
  rw [decide_eq_true rfl]
  try walk_at "dn"
  have e1 : (hts.map eF)[(hts.map eF).length - 1]? = some (eF ((j * s + s : Int) : Rat)) := by
    rw [List.length_map, List.getElem?_map, ← List.getLast?_eq_getElem?, hla]; rfl
  refine it_last e1 ?_
  refine ⟨by decide, eq_eF (p := ((j * s + s : Int) : Rat)) (q := ((j * s + s : Int) : Rat)) ?_⟩
  rw [decide_eq_true rfl]
  try walk_at "dn"
  rw [show cut (hts.map eF) (some 1) none = (hts.drop 1).map eF by rw [show (1 : Int) = ((1 : Nat) : Int) from rfl, cut_drop, List.map_drop], zipD_map]
  change forW _ _ _ ((pairsW hts).map fun p => D.tup [eF p.1, eF p.2]) _ _
  refine for_ind (fun its ρ M' => M' = M ∧ ∃ (suf : List (Rat × Rat)) (d5 d6 : Option D), (∀ p, p ∈ suf → p ∈ pairsW hts) ∧ its = suf.map (fun p => D.tup [eF p.1, eF p.2]) ∧
    ρ = [some (ePath P), some (ePg c r s), some (eI2 i j), some (D.tup (List.map eF hts)), some (D.tup [D.int (i * s), D.int (j * s), D.int (i * s + s), D.int (j * s + s)]), d5, d6]) ?_ ?_ ⟨rfl, pairsW hts, _, _, fun _ h => h, rfl, rfl⟩
  · rintro d its ρ M' Kx ⟨rfl, suf, d5, d6, hsub, e1, rfl⟩ hk
    cases suf with
    | nil => cases e1
    | cons x suf =>
      cases e1
      have hx := hsub x (.head _)
      obtain ⟨m1, m2⟩ := pairsW_mem (a := x.1) (b := x.2) hx
      have C := hclr x.1 x.2 hx
      walk_at "dn"
      refine u__law_over (p := x.1) (q := x.2) (n := 100) (m := 100) (hz _ m1) (hz _ m2) (by decide) ?_
      try walk_at "dn"
      rw [if_neg (fun z => by have := ovr_ge.mp z; have := C.lt; grind)]
      try walk_at "dn"
      refine u__law_between_right (l := i * s) (lo := j * s) (r := i * s + s) (hi := j * s + s) hP C (hz _ m1) (hz _ m2) b1 b3 ?_
      try walk_at "dn"
      exact hk _ _ ⟨rfl, suf, _, _, fun p hp => hsub p (.tail _ hp), rfl, rfl⟩
  · rintro ρ M' ⟨rfl, suf, d5, d6, hsub, e1, rfl⟩
    walk_at "dn"
    exact Rw.of k
theorem slop_short (P : List (List Pt)) : (slopW P).length ≤ P.flatten.length := by
  unfold slopW
  rw [List.length_map]
  refine Nat.le_trans (List.length_filter_le _ _) ?_
  rw [sidesP_len]
  exact Nat.le_refl _
def g_law : G := fun ds R E M => ∃ (ns : List Int), ds = [.scr ns] ∧ (∀ a, M a = none) ∧ (∀ M', R (.bl true) M')
abbrev n_law : List Str := ["script", "tape", "page", "path", "turn", "kept", "cells"]
def tb_law_b1 : DTS :=
  (dIfS (dNot (dTru (dCall g__law_right (dCons (dVar 3) (dCons (dVar 2) (dCons (dMt popAtD (dVar 6) (dCons (dCall g__law_draw (dCons (dVar 1) (dCons (dCB lenD (dCons (dVar 6) dNil)) dNil))) dNil)) dNil)))))) (dRet (dC (.bl false))) dNext)
def tb_law : DTS :=
  (dSeq (dSet 1 (dCall g__law_tape (dCons (dVar 0) dNil)))
  (dSeq (dSet 2 (dCall g__law_page (dCons (dVar 1) (dCons (dC (.int 3)) dNil))))
  (dSeq (dSet 3 (dCall g__law_path (dCons (dVar 1) (dCons (dVar 2) (dCons (dC (.int 8)) dNil)))))
  (dSeq (dPar 5 6 (dCons (dCB reprD (dCons (dTup (dCons (dVar 2) (dCons (dVar 3) dNil))) dNil)) (dCons (dCall g__law_cells (dCons (dVar 2) dNil)) dNil)))
  (dSeq (dFor (dRng1 (dCons (dCB minD (dCons (dC (.int 3)) (dCons (dCB lenD (dCons (dVar 6) dNil)) dNil))) dNil)) (.nm 4) tb_law_b1)
  (dRet (dAndV (dOp (eqD id) (dCB reprD (dCons (dTup (dCons (dVar 2) (dCons (dVar 3) dNil))) dNil)) (dVar 5)) (dOp (eqD id) (dIx (dCall g_heights_in (dCons (dTup dNil) (dCons (dTup (dCons (dC (.int 1)) (dCons (dC (.int 1)) (dCons (dC (.int 2)) dNil)))) (dCons (dTup (dCons (dC (.int 0)) (dCons (dC (.int 0)) dNil))) dNil)))) (dC (.int 0))) (dTup (dCons (dC (.int 0)) (dCons (dC (.int 1)) dNil)))))))))))
theorem l_law : ∀ ds R E M, g_law ds R E M → ds.length = 1 := by
  rintro ds R E M ⟨_, rfl, -⟩; rfl
theorem u_law {ns : List Int} {R : PD} {E : Ex → MS → Prop} {M : MS} (hM : ∀ a, M a = none) (k : ∀ M', R (.bl true) M') : g_law [.scr ns] R E M := ⟨_, rfl, hM, k⟩
theorem cell_pg {c r s i j : Int} (h : PgOk 6 c r s) (i0 : 0 ≤ i) (i1 : i < c) (j0 : 0 ≤ j) (j1 : j < r) : CellOk c r s i j := ⟨i0, i1, j0, j1, by have := h.1; omega, by have := h.2.1; omega, h.2.2.1, by have := h.2.2.2; omega⟩
theorem map_erase {α β : Type} (f : α → β) : ∀ (L : List α) (n : Nat), (L.map f).eraseIdx n = (L.eraseIdx n).map f
  | [], _ => rfl
  | _ :: _, 0 => rfl
  | x :: L, n + 1 => by
    show f x :: (L.map f).eraseIdx n = f x :: (L.eraseIdx n).map f
    rw [map_erase f L n]
theorem law_b1 {P : List (List Pt)} {c r s : Int} {L : List (Int × Int)} {a p : Addr} {b : Nat} {De : DEnds} {M M2 : MS} {d0 d4 d5 : Option D} (hP : PathB P) (hl : (slopW P).length ≤ 40) (hp : PgOk 6 c r s) (hL : 0 < L.length) (hL2 : L.length ≤ 36)
    (ok : ∀ x, x ∈ L → (0 ≤ x.1 ∧ x.1 < c) ∧ 0 ≤ x.2 ∧ x.2 < r) (t : Two (fun o => FdO o (b + 1)) M a p (L.map eCl) M2)
    (k : ∀ (L2 : List (Int × Int)) M3, L2.length + 1 = L.length → (∀ x, x ∈ L2 → x ∈ L) → Two (fun o => FdO o b) M a p (L2.map eCl) M3 → De.nx [d0, some (.ref a), some (ePg c r s), some (ePath P), d4, d5, some (.ref p)] M3) :
    tb_law_b1 De [d0, some (.ref a), some (ePg c r s), some (ePath P), d4, d5, some (.ref p)] M2 := by
  unfold tb_law_b1
  walk_at "dn"
  refine ⟨⟨_, t.ls⟩, ?_⟩
  refine ⟨_, t.ls, ?_⟩
  have f1 : Feed M2 a (b + 1) := t.fd
  refine u__law_draw (b := b) (by rw [List.length_map]; omega) f1 fun x o1 x0 x1 f2 => ?_
  have t1 := Two.um (F' := fun o => FdO o b) t f2
  rw [List.length_map] at x1
  have hx : L[x.toNat]? = some L[x.toNat] := List.getElem?_eq_getElem (by omega)
  have hm : L[x.toNat] ∈ L := List.getElem_mem (by omega)
  generalize L[x.toNat] = y at hx hm
  obtain ⟨⟨y0, y1⟩, y2, y3⟩ := ok y hm
  refine ⟨_, eCl y, t1.ls, x0, by omega, by rw [List.getElem?_map, hx]; rfl, ?_⟩
  have t2 := t1.put (L' := (L.eraseIdx x.toNat).map eCl)
  rw [show (L.map eCl).eraseIdx x.toNat = (L.eraseIdx x.toNat).map eCl from map_erase _ _ _]
  refine u__law_right (c := c) (r := r) (s := s) (i := y.1) (j := y.2) hP hl (cell_pg hp y0 y1 y2 y3) ?_
  try walk_at "dn"
  exact k _ _ (by rw [List.length_eraseIdx, if_pos (by omega)]; omega) (fun z hz => List.mem_of_mem_eraseIdx hz) t2
theorem nice_pp {c r s : Int} {P : List (List Pt)} (hp : PgOk 6 c r s) (h : Pth 8 P) : Nice 7 4 28400 (.tup [ePg c r s, ePath P]) := by
  obtain ⟨⟨c0, c1⟩, ⟨r0, r1⟩, s0, s1⟩ := hp
  refine nice_tup (n := 14166) (fun d hd => ?_) (by simp only [List.length_cons, List.length_nil]; decide)
  simp only [List.mem_cons, List.not_mem_nil, or_false] at hd
  rcases hd with rfl | rfl
  · refine Nice.up (m := 1) (n := 87) (nice_tup (n := 28) (fun d hd => ?_) (by simp only [List.length_cons, List.length_nil]; decide)) (by decide) (by decide)
    simp only [List.mem_cons, List.not_mem_nil, or_false] at hd
    rcases hd with rfl | rfl | rfl <;> exact nice_int (by decide) (by decide) (by omega)
  · exact h.nice (by decide)
theorem h_law : Hg g_law tb_law n_law := by
  rintro ds R E M ⟨ns, rfl, hM, k⟩
  unfold tb_law
  have hB := fun P c r s L a p b De M' M2 d0 d4 d5 hP hl hp hL hL2 ok t k => law_b1 (P := P) (c := c) (r := r) (s := s) (L := L) (a := a) (p := p) (b := b) (De := De) (M := M') (M2 := M2) (d0 := d0) (d4 := d4) (d5 := d5) hP hl hp hL hL2 ok t k
  generalize tb_law_b1 = tb at hB ⊢
  walk_at "dn"
  refine u__law_tape fun a o ha f => ?_
  try walk_at "dn"
  refine u__law_page (b := 999999999990) (by decide) (Feed.mono (b := 1000000000000) ⟨_, um_same, f⟩ (by decide)) fun c r s o2 hp f2 => ?_
  have hp6 : PgOk 6 c r s := ⟨⟨hp.1.1, by have := hp.1.2; omega⟩, ⟨hp.2.1.1, by have := hp.2.1.2; omega⟩, hp.2.2⟩
  rw [um_um]
  refine u__law_path (c := c) (r := r) (s := s) (most := 8) (b := 999999990000) hp6 (by decide) ((Feed.um f2).mono (by decide)) fun P o3 h8 f3 => ?_
  rw [um_um]
  try walk_at "dn"
  refine ⟨by decide, repr_of (nice_pp hp6 h8) (by decide) (by decide) (by decide) ?_⟩
  refine u__law_cells hp6 fun p hn => ?_
  have hP := pathB99 h8 (by decide)
  have hl : (slopW P).length ≤ 40 := Nat.le_trans (slop_short P) (by have := h8.many; omega)
  have t0 : Two (fun o => FdO o 999999990000) M a p ((cellsR c r.toNat).map eCl) (um (um M a o3) p (.lst ((cellsR c r.toNat).map eCl))) := Two.new f3 hn
  have ln := cellsR_len c r.toNat
  have lb := Nat.mul_le_mul (show c.toNat ≤ 6 by have := hp6.1; omega) (show r.toNat ≤ 6 by have := hp6.2.1; omega)
  have l1 : 0 < c.toNat * r.toNat := Nat.mul_pos (by have := hp6.1; omega) (by have := hp6.2.1; omega)
  generalize um (um M a o3) p (.lst ((cellsR c r.toNat).map eCl)) = M1 at t0 ⊢
  try walk_at "dn"
  refine ⟨_, t0.ls, by rw [List.length_map]; split <;> omega, by split <;> omega, ?_⟩
  rw [List.length_map, ln]
  have hm3 : (if ((c.toNat * r.toNat : Nat) : Int) < 3 then ((c.toNat * r.toNat : Nat) : Int) else 3).toNat ≤ c.toNat * r.toNat := by split <;> omega
  generalize (if ((c.toNat * r.toNat : Nat) : Int) < 3 then ((c.toNat * r.toNat : Nat) : Int) else 3).toNat = m at hm3 ⊢
  refine for_rngI (fun (n : Nat) ρ M' => ∃ (L : List (Int × Int)) (d4 : Option D), L.length + n = c.toNat * r.toNat ∧ (∀ x, x ∈ L → (0 ≤ x.1 ∧ x.1 < c) ∧ 0 ≤ x.2 ∧ x.2 < r) ∧ Two (fun o => FdO o (999999990000 - n)) M a p (L.map eCl) M' ∧
    ρ = [some (D.scr ns), some (D.ref a), some (ePg c r s), some (ePath P), d4, some (D.str (pd (D.tup [ePg c r s, ePath P])).shown), some (D.ref p)]) ?_ ?_ ⟨cellsR c r.toNat, _, by omega, fun x hx => by have := cellsR_ok hx; omega, t0, rfl⟩
  · rintro n hn ρ M' Kx ⟨L, d4, e1, ok, t, rfl⟩ hk
    walk_at "dn"
    refine hB P c r s L a p (999999990000 - (n + 1)) _ M M' _ _ _ hP hl hp6 (by omega) (by omega) ok (by rw [show 999999990000 - (n + 1) + 1 = 999999990000 - n by omega]; exact t) fun L2 M3 h1 h2 t3 => hk _ _ ⟨L2, _, by omega, fun x hx => ok x (h2 x hx), t3, rfl⟩
  · rintro ρ M' ⟨L, d4, e1, ok, t, rfl⟩
    walk_at "dn"
    refine ⟨by decide, repr_of (nice_pp hp6 h8) (by decide) (by decide) (by decide) ?_⟩
    try walk_at "dn"
    refine ⟨by decide, by decide, by decide, ?_⟩
    refine u_heights_in (P := []) (c := 1) (r := 1) (s := 2) (i := 0) (j := 0) ⟨by decide, fun _ h => (nomatch h)⟩ (by decide) ⟨by decide, by decide, by decide, by decide, by decide, by decide, by decide, by decide⟩ ?_
    have hd := hts_head (sd := slopW []) (lo := 0 * 2) (hi := 0 * 2 + 2) (ed := some (0 * 2, 0 * 2 + 2)) (by decide)
    generalize heightsW (slopW []) (0 * 2) (0 * 2 + 2) (some (0 * 2, 0 * 2 + 2)) = hts at hd
    unfold eFs
    try walk_at "dn"
    have e0 : (hts.map eF)[0]? = some (eF 0) := by
      rw [List.getElem?_map, ← List.head?_eq_getElem?, hd]; rfl
    refine it_at 0 rfl e0 ?_
    refine ⟨by decide, eq_eF (p := 0) (q := 0) ?_⟩
    rw [decide_eq_true rfl]
    exact Rw.of (k _)
theorem law_holds : gLaw g_law := fun ns h => u_law (fun _ => rfl) fun _ => rfl


def topS (i : Nat) : Stmt := PySem.Challenge.pw_inkcover_k37_heights_told.main.body.getD i (.Pass ⟨0, 0, 0, 0⟩)
structure Bi (K : PySem.W.Frag) (mg : Str → Option Value) : Prop where
  b_abs : mg "abs" = none
  b_bool : mg "bool" = none
  b_dict : mg "dict" = none
  b_enumerate : mg "enumerate" = none
  b_int : mg "int" = none
  b_isinstance : mg "isinstance" = none
  b_len : mg "len" = none
  b_list : mg "list" = none
  b_max : mg "max" = none
  b_min : mg "min" = none
  b_range : mg "range" = none
  b_repr : mg "repr" = none
  b_sorted : mg "sorted" = none
  b_tuple : mg "tuple" = none
  b_zip : mg "zip" = none
section
variable {P : Program} {w : World} {K : PySem.W.Frag} {mg : Str → Option Value} {base : Heap}
abbrev s_common_divisor : Stmt := topS 6
theorem sc_common_divisor : FnScope n_common_divisor ["one", "other"] (defScope s_common_divisor) := ⟨rfl, rfl, rfl, by decide +kernel, rfl, by decide +kernel, by decide +kernel⟩
theorem ok_common_divisor (B : Bi K mg) (T : Tx K mg "common_divisor" s_common_divisor)  : Df P w K mg base "common_divisor" ["one", "other"] 1 g_common_divisor :=
  Df.of T sc_common_divisor (fun _ _ _ _ _ _ us hl => match us, hl with | [_, _], _ => rfl) l_common_divisor (fun f cdv A outer s H E hr hG =>
  have nd := sc_common_divisor.nd
  (dss_cons (ds_while (passes_of rfl) (dt_cmp (o_ne hr.units) (de_var 1) de_int) (dss_one (ds_par 0 1 rfl nd (da_cons (de_var 1) (da_cons (de_op o_mod (de_var 0) (de_var 1)) da_nil)))))
  (dss_one (ds_ret (de_var 0))))) h_common_divisor
abbrev s_ratio : Stmt := topS 8
theorem sc_ratio : FnScope n_ratio ["a", "b"] (defScope s_ratio) := ⟨rfl, rfl, rfl, by decide +kernel, rfl, by decide +kernel, by decide +kernel⟩
theorem ok_ratio (B : Bi K mg) (T : Tx K mg "ratio" s_ratio) (d_common_divisor : Df P w K mg base "common_divisor" ["one", "other"] 1 g_common_divisor) : Df P w K mg base "ratio" ["a", "b"] 3 g_ratio :=
  Df.of T sc_ratio (fun _ _ _ _ _ _ us hl => match us, hl with | [_, _], _ => rfl) l_ratio (fun f cdv A outer s H E hr hG =>
  have nd := sc_ratio.nd
  (dss_cons (ds_if (dt_cmp (o_eq hr.units) (de_var 1) de_int) (dss_one ds_never) dss_nil)
  (dss_cons (ds_set 2 nd (de_call d_common_divisor (hr.mono (by decide)) hG (takes_of rfl rfl rfl rfl) (da_cons (de_callB c_abs B.b_abs bt_abs (da_cons (de_var 0) da_nil)) (da_cons (de_callB c_abs B.b_abs bt_abs (da_cons (de_var 1) da_nil)) da_nil))))
  (dss_cons (ds_if (dt_cmp o_lt (de_var 1) de_int) (dss_one (ds_set 2 nd (de_op o_sub de_int (de_var 2)))) dss_nil)
  (dss_one (ds_ret (de_tup (da_cons (de_op o_fdiv (de_var 0) (de_var 2)) (da_cons (de_op o_fdiv (de_var 1) (de_var 2)) da_nil))))))))) h_ratio
abbrev s_added : Stmt := topS 9
theorem sc_added : FnScope n_added ["one", "other"] (defScope s_added) := ⟨rfl, rfl, rfl, by decide +kernel, rfl, by decide +kernel, by decide +kernel⟩
theorem ok_added (B : Bi K mg) (T : Tx K mg "added" s_added) (d_ratio : Df P w K mg base "ratio" ["a", "b"] 3 g_ratio) : Df P w K mg base "added" ["one", "other"] 4 g_added :=
  Df.of T sc_added (fun _ _ _ _ _ _ us hl => match us, hl with | [_, _], _ => rfl) l_added (fun f cdv A outer s H E hr hG =>
  have nd := sc_added.nd
  (dss_one (ds_ret (de_call d_ratio (hr.mono (by decide)) hG (takes_of rfl rfl rfl rfl) (da_cons (de_op o_add (de_op o_mul (de_ix (de_var 0) de_int) (de_ix (de_var 1) de_int)) (de_op o_mul (de_ix (de_var 1) de_int) (de_ix (de_var 0) de_int))) (da_cons (de_op o_mul (de_ix (de_var 0) de_int) (de_ix (de_var 1) de_int)) da_nil)))))) h_added
abbrev s_is_below : Stmt := topS 10
theorem sc_is_below : FnScope n_is_below ["one", "other"] (defScope s_is_below) := ⟨rfl, rfl, rfl, by decide +kernel, rfl, by decide +kernel, by decide +kernel⟩
theorem ok_is_below (B : Bi K mg) (T : Tx K mg "is_below" s_is_below)  : Df P w K mg base "is_below" ["one", "other"] 1 g_is_below :=
  Df.of T sc_is_below (fun _ _ _ _ _ _ us hl => match us, hl with | [_, _], _ => rfl) l_is_below (fun f cdv A outer s H E hr hG =>
  have nd := sc_is_below.nd
  (dss_one (ds_ret (de_cmp o_lt (de_op o_mul (de_ix (de_var 0) de_int) (de_ix (de_var 1) de_int)) (de_op o_mul (de_ix (de_var 1) de_int) (de_ix (de_var 0) de_int)))))) h_is_below
abbrev s_ring_sides : Stmt := topS 12
theorem sc_ring_sides : FnScope n_ring_sides ["ring"] (defScope s_ring_sides) := ⟨rfl, rfl, rfl, by decide +kernel, rfl, by decide +kernel, by decide +kernel⟩
theorem ok_ring_sides (B : Bi K mg) (T : Tx K mg "ring_sides" s_ring_sides)  : Df P w K mg base "ring_sides" ["ring"] 1 g_ring_sides :=
  Df.of T sc_ring_sides (fun _ _ _ _ _ _ us hl => match us, hl with | [_], _ => rfl) l_ring_sides (fun f cdv A outer s H E hr hG =>
  have nd := sc_ring_sides.nd
  (dss_one (ds_ret (de_listZs rfl B.b_list B.b_zip (da_cons (de_var 0) (da_cons (de_op o_add (de_slice (de_var 0) (do_some de_int) do_none) (de_slice (de_var 0) do_none (do_some de_int))) da_nil)))))) h_ring_sides
abbrev s_sides_of : Stmt := topS 13
theorem sc_sides_of : FnScope n_sides_of ["path"] (defScope s_sides_of) := ⟨rfl, rfl, rfl, by decide +kernel, rfl, by decide +kernel, by decide +kernel⟩
theorem ok_sides_of (B : Bi K mg) (T : Tx K mg "sides_of" s_sides_of) (d_ring_sides : Df P w K mg base "ring_sides" ["ring"] 1 g_ring_sides) : Df P w K mg base "sides_of" ["path"] 2 g_sides_of :=
  Df.of T sc_sides_of (fun _ _ _ _ _ _ us hl => match us, hl with | [_], _ => rfl) l_sides_of (fun f cdv A outer s H E hr hG =>
  have nd := sc_sides_of.nd
  (dss_cons (ds_set 1 nd (de_lstN da_nil))
  (dss_cons (ds_for (passes_of rfl) rfl (di_items (de_var 0)) (dg_nm 2 nd) (dss_one (ds_expr (de_mtL PySem.F.slot_list_extend PySem.F.type_list_extend m_extend (de_var 1) (da_cons (de_call d_ring_sides (hr.mono (by decide)) hG (takes_of rfl rfl rfl rfl) (da_cons (de_var 2) da_nil)) da_nil)))))
  (dss_one (ds_ret (de_callT c_tup B.b_tuple bt_tuple (da_cons (de_var 1) da_nil))))))) h_sides_of
abbrev s_sign_of : Stmt := topS 14
theorem sc_sign_of : FnScope n_sign_of ["side"] (defScope s_sign_of) := ⟨rfl, rfl, rfl, by decide +kernel, rfl, by decide +kernel, by decide +kernel⟩
theorem ok_sign_of (B : Bi K mg) (T : Tx K mg "sign_of" s_sign_of)  : Df P w K mg base "sign_of" ["side"] 1 g_sign_of :=
  Df.of T sc_sign_of (fun _ _ _ _ _ _ us hl => match us, hl with | [_], _ => rfl) l_sign_of (fun f cdv A outer s H E hr hG =>
  have nd := sc_sign_of.nd
  (dss_one (ds_ret (de_op o_sub (de_callT c_int B.b_int bt_int (da_cons (de_cmp o_lt (de_ix (de_ix (de_var 0) de_int) de_int) (de_ix (de_ix (de_var 0) de_int) de_int)) da_nil)) (de_callT c_int B.b_int bt_int (da_cons (de_cmp o_gt (de_ix (de_ix (de_var 0) de_int) de_int) (de_ix (de_ix (de_var 0) de_int) de_int)) da_nil)))))) h_sign_of
abbrev s_at_height : Stmt := topS 15
theorem sc_at_height : FnScope n_at_height ["side", "height"] (defScope s_at_height) := ⟨rfl, rfl, rfl, by decide +kernel, rfl, by decide +kernel, by decide +kernel⟩
theorem ok_at_height (B : Bi K mg) (T : Tx K mg "at_height" s_at_height) (d_added : Df P w K mg base "added" ["one", "other"] 4 g_added) (d_is_below : Df P w K mg base "is_below" ["one", "other"] 1 g_is_below) (d_ratio : Df P w K mg base "ratio" ["a", "b"] 3 g_ratio) : Df P w K mg base "at_height" ["side", "height"] 5 g_at_height :=
  Df.of T sc_at_height (fun _ _ _ _ _ _ us hl => match us, hl with | [_, _], _ => rfl) l_at_height (fun f cdv A outer s H E hr hG =>
  have nd := sc_at_height.nd
  (dss_cons (ds_asg (de_var 0) (dg_tup rfl (dgs_cons (dg_tup rfl (dgs_cons (dg_nm 2 nd) (dgs_cons (dg_nm 3 nd) dgs_nil)) (pl_of 2)) (dgs_cons (dg_tup rfl (dgs_cons (dg_nm 4 nd) (dgs_cons (dg_nm 5 nd) dgs_nil)) (pl_of 2)) dgs_nil)) (pl_of 2)))
  (dss_cons (ds_if (PW.pt (dw_or (dt_cmp (o_eq hr.units) (de_var 3) (de_var 5)) (dw_or (dt_tru (de_call d_is_below (hr.mono (by decide)) hG (takes_of rfl rfl rfl rfl) (da_cons (de_var 1) (da_cons (de_tup (da_cons (de_callB (c_min rfl) B.b_min bt_min (da_cons (de_var 3) (da_cons (de_var 5) da_nil))) (da_cons de_int da_nil))) da_nil)))) (dw_or1 (dt_tru (de_call d_is_below (hr.mono (by decide)) hG (takes_of rfl rfl rfl rfl) (da_cons (de_tup (da_cons (de_callB (c_max rfl) B.b_max bt_max (da_cons (de_var 3) (da_cons (de_var 5) da_nil))) (da_cons de_int da_nil))) (da_cons (de_var 1) da_nil)))))))) (dss_one (ds_ret de_non)) dss_nil)
  (dss_one (ds_ret (de_call d_added (hr.mono (by decide)) hG (takes_of rfl rfl rfl rfl) (da_cons (de_tup (da_cons (de_var 2) (da_cons de_int da_nil))) (da_cons (de_call d_ratio (hr.mono (by decide)) hG (takes_of rfl rfl rfl rfl) (da_cons (de_op o_mul (de_op o_sub (de_var 4) (de_var 2)) (de_op o_sub (de_ix (de_var 1) de_int) (de_op o_mul (de_var 3) (de_ix (de_var 1) de_int)))) (da_cons (de_op o_mul (de_op o_sub (de_var 5) (de_var 3)) (de_ix (de_var 1) de_int)) da_nil))) da_nil)))))))) h_at_height
abbrev s_is_cell : Stmt := topS 17
theorem sc_is_cell : FnScope n_is_cell ["page", "cell"] (defScope s_is_cell) := ⟨rfl, rfl, rfl, by decide +kernel, rfl, by decide +kernel, by decide +kernel⟩
theorem ok_is_cell (B : Bi K mg) (T : Tx K mg "is_cell" s_is_cell)  : Df P w K mg base "is_cell" ["page", "cell"] 1 g_is_cell :=
  Df.of T sc_is_cell (fun _ _ _ _ _ _ us hl => match us, hl with | [_, _], _ => rfl) l_is_cell (fun f cdv A outer s H E hr hG =>
  have nd := sc_is_cell.nd
  (dss_one (ds_ret (de_and (de_chain o_le o_lt de_int (de_ix (de_var 1) de_int) (de_ix (de_var 0) de_int)) (de_one (de_chain o_le o_lt de_int (de_ix (de_var 1) de_int) (de_ix (de_var 0) de_int))))))) h_is_cell
abbrev s_cell_edges : Stmt := topS 18
theorem sc_cell_edges : FnScope n_cell_edges ["page", "cell"] (defScope s_cell_edges) := ⟨rfl, rfl, rfl, by decide +kernel, rfl, by decide +kernel, by decide +kernel⟩
theorem ok_cell_edges (B : Bi K mg) (T : Tx K mg "cell_edges" s_cell_edges) (d_is_cell : Df P w K mg base "is_cell" ["page", "cell"] 1 g_is_cell) : Df P w K mg base "cell_edges" ["page", "cell"] 3 g_cell_edges :=
  Df.of T sc_cell_edges (fun _ _ _ _ _ _ us hl => match us, hl with | [_, _], _ => rfl) l_cell_edges (fun f cdv A outer s H E hr hG =>
  have nd := sc_cell_edges.nd
  (dss_cons (ds_if (dt_not (dt_tru (de_call d_is_cell (hr.mono (by decide)) hG (takes_of rfl rfl rfl rfl) (da_cons (de_var 0) (da_cons (de_var 1) da_nil))))) (dss_one ds_never) dss_nil)
  (dss_cons (ds_par 2 3 rfl nd (da_cons (de_op o_mul (de_ix (de_var 1) de_int) (de_ix (de_var 0) de_int)) (da_cons (de_op o_mul (de_ix (de_var 1) de_int) (de_ix (de_var 0) de_int)) da_nil)))
  (dss_one (ds_ret (de_tup (da_cons (de_var 2) (da_cons (de_var 3) (da_cons (de_op o_add (de_var 2) (de_ix (de_var 0) de_int)) (da_cons (de_op o_add (de_var 3) (de_ix (de_var 0) de_int)) da_nil)))))))))) h_cell_edges
abbrev s_whole : Stmt := topS 20
theorem sc_whole : FnScope n_whole ["number"] (defScope s_whole) := ⟨rfl, rfl, rfl, by decide +kernel, rfl, by decide +kernel, by decide +kernel⟩
theorem ok_whole (B : Bi K mg) (T : Tx K mg "whole" s_whole)  : Df P w K mg base "whole" ["number"] 1 g_whole :=
  Df.of T sc_whole (fun _ _ _ _ _ _ us hl => match us, hl with | [_], _ => rfl) l_whole (fun f cdv A outer s H E hr hG =>
  have nd := sc_whole.nd
  (dss_one (ds_ret (de_tup (da_cons (de_var 0) (da_cons de_int da_nil)))))) h_whole
abbrev s_sloped : Stmt := topS 21
theorem sc_sloped : FnScope n_sloped ["path"] (defScope s_sloped) := ⟨rfl, rfl, rfl, by decide +kernel, rfl, by decide +kernel, by decide +kernel⟩
theorem ok_sloped (B : Bi K mg) (T : Tx K mg "sloped" s_sloped) (d_sign_of : Df P w K mg base "sign_of" ["side"] 1 g_sign_of) (d_sides_of : Df P w K mg base "sides_of" ["path"] 2 g_sides_of) : Df P w K mg base "sloped" ["path"] 3 g_sloped :=
  Df.of T sc_sloped (fun _ _ _ _ _ _ us hl => match us, hl with | [_], _ => rfl) l_sloped (fun f cdv A outer s H E hr hG =>
  have nd := sc_sloped.nd
  (dss_one (ds_ret (de_lc (own := [("side", 1)]) rfl nd (di_items (de_call d_sides_of (hr.mono (by decide)) hG (takes_of rfl rfl rfl rfl) (da_cons (de_var 0) da_nil))) (blkOk_by (by show blkC n_sloped (defScope s_sloped) _ _ = true; decide +kernel)) (by decide) (fun _ _ _ _ _ => (dg_nm 1 nd)) (fun _ _ _ _ _ => (dts_one (dt_cmp (o_ne hr.units) (de_call d_sign_of (hr.mono (by decide)) hG takes0 (da_cons (de_var 1) da_nil)) de_int))) (fun _ _ _ _ _ => (de_tup (da_cons (de_var 1) (da_cons (de_call d_sign_of (hr.mono (by decide)) hG takes0 (da_cons (de_var 1) da_nil)) da_nil)))))))) h_sloped
abbrev s_ends_of : Stmt := topS 22
theorem sc_ends_of : FnScope n_ends_of ["side"] (defScope s_ends_of) := ⟨rfl, rfl, rfl, by decide +kernel, rfl, by decide +kernel, by decide +kernel⟩
theorem ok_ends_of (B : Bi K mg) (T : Tx K mg "ends_of" s_ends_of)  : Df P w K mg base "ends_of" ["side"] 1 g_ends_of :=
  Df.of T sc_ends_of (fun _ _ _ _ _ _ us hl => match us, hl with | [_], _ => rfl) l_ends_of (fun f cdv A outer s H E hr hG =>
  have nd := sc_ends_of.nd
  (dss_one (ds_ret (de_tup (da_cons (de_callB (c_min rfl) B.b_min bt_min (da_cons (de_ix (de_ix (de_var 0) de_int) de_int) (da_cons (de_ix (de_ix (de_var 0) de_int) de_int) da_nil))) (da_cons (de_callB (c_max rfl) B.b_max bt_max (da_cons (de_ix (de_ix (de_var 0) de_int) de_int) (da_cons (de_ix (de_ix (de_var 0) de_int) de_int) da_nil))) da_nil)))))) h_ends_of
abbrev s_goes_through : Stmt := topS 23
theorem sc_goes_through : FnScope n_goes_through ["side", "low", "high"] (defScope s_goes_through) := ⟨rfl, rfl, rfl, by decide +kernel, rfl, by decide +kernel, by decide +kernel⟩
theorem ok_goes_through (B : Bi K mg) (T : Tx K mg "goes_through" s_goes_through) (d_ends_of : Df P w K mg base "ends_of" ["side"] 1 g_ends_of) : Df P w K mg base "goes_through" ["side", "low", "high"] 2 g_goes_through :=
  Df.of T sc_goes_through (fun _ _ _ _ _ _ us hl => match us, hl with | [_, _, _], _ => rfl) l_goes_through (fun f cdv A outer s H E hr hG =>
  have nd := sc_goes_through.nd
  (dss_cons (ds_set 3 nd (de_call d_ends_of (hr.mono (by decide)) hG (takes_of rfl rfl rfl rfl) (da_cons (de_var 0) da_nil)))
  (dss_one (ds_ret (de_and (de_cmp o_le (de_op o_mul (de_ix (de_var 3) de_int) (de_ix (de_var 1) de_int)) (de_ix (de_var 1) de_int)) (de_one (de_cmp o_ge (de_op o_mul (de_ix (de_var 3) de_int) (de_ix (de_var 2) de_int)) (de_ix (de_var 2) de_int)))))))) h_goes_through
abbrev s_meeting : Stmt := topS 24
theorem sc_meeting : FnScope n_meeting ["side", "x"] (defScope s_meeting) := ⟨rfl, rfl, rfl, by decide +kernel, rfl, by decide +kernel, by decide +kernel⟩
theorem ok_meeting (B : Bi K mg) (T : Tx K mg "meeting" s_meeting) (d_ratio : Df P w K mg base "ratio" ["a", "b"] 3 g_ratio) : Df P w K mg base "meeting" ["side", "x"] 4 g_meeting :=
  Df.of T sc_meeting (fun _ _ _ _ _ _ us hl => match us, hl with | [_, _], _ => rfl) l_meeting (fun f cdv A outer s H E hr hG =>
  have nd := sc_meeting.nd
  (dss_cons (ds_asg (de_var 0) (dg_tup rfl (dgs_cons (dg_tup rfl (dgs_cons (dg_nm 2 nd) (dgs_cons (dg_nm 3 nd) dgs_nil)) (pl_of 2)) (dgs_cons (dg_tup rfl (dgs_cons (dg_nm 4 nd) (dgs_cons (dg_nm 5 nd) dgs_nil)) (pl_of 2)) dgs_nil)) (pl_of 2)))
  (dss_cons (ds_if (PW.pt (dw_or (dt_cmp (o_eq hr.units) (de_var 2) (de_var 4)) (dw_or1 (dt_not (dt_chain o_le o_le (de_callB (c_min rfl) B.b_min bt_min (da_cons (de_var 2) (da_cons (de_var 4) da_nil))) (de_var 1) (de_callB (c_max rfl) B.b_max bt_max (da_cons (de_var 2) (da_cons (de_var 4) da_nil)))))))) (dss_one (ds_ret de_non)) dss_nil)
  (dss_one (ds_ret (de_call d_ratio (hr.mono (by decide)) hG (takes_of rfl rfl rfl rfl) (da_cons (de_op o_add (de_op o_mul (de_op o_sub (de_var 1) (de_var 2)) (de_op o_sub (de_var 5) (de_var 3))) (de_op o_mul (de_var 3) (de_op o_sub (de_var 4) (de_var 2)))) (da_cons (de_op o_sub (de_var 4) (de_var 2)) da_nil)))))))) h_meeting
abbrev s_crossing_height : Stmt := topS 25
theorem sc_crossing_height : FnScope n_crossing_height ["one", "other"] (defScope s_crossing_height) := ⟨rfl, rfl, rfl, by decide +kernel, rfl, by decide +kernel, by decide +kernel⟩
theorem ok_crossing_height (B : Bi K mg) (T : Tx K mg "crossing_height" s_crossing_height) (d_ratio : Df P w K mg base "ratio" ["a", "b"] 3 g_ratio) (d_goes_through : Df P w K mg base "goes_through" ["side", "low", "high"] 2 g_goes_through) : Df P w K mg base "crossing_height" ["one", "other"] 4 g_crossing_height :=
  Df.of T sc_crossing_height (fun _ _ _ _ _ _ us hl => match us, hl with | [_, _], _ => rfl) l_crossing_height (fun f cdv A outer s H E hr hG =>
  have nd := sc_crossing_height.nd
  (dss_cons (ds_asg (de_var 0) (dg_tup rfl (dgs_cons (dg_tup rfl (dgs_cons (dg_nm 5 nd) (dgs_cons (dg_nm 6 nd) dgs_nil)) (pl_of 2)) (dgs_cons (dg_tup rfl (dgs_cons (dg_nm 7 nd) (dgs_cons (dg_nm 8 nd) dgs_nil)) (pl_of 2)) dgs_nil)) (pl_of 2)))
  (dss_cons (ds_asg (de_var 1) (dg_tup rfl (dgs_cons (dg_tup rfl (dgs_cons (dg_nm 9 nd) (dgs_cons (dg_nm 10 nd) dgs_nil)) (pl_of 2)) (dgs_cons (dg_tup rfl (dgs_cons (dg_nm 11 nd) (dgs_cons (dg_nm 12 nd) dgs_nil)) (pl_of 2)) dgs_nil)) (pl_of 2)))
  (dss_cons (ds_set 2 nd (de_op o_sub (de_op o_mul (de_op o_sub (de_var 7) (de_var 5)) (de_op o_sub (de_var 12) (de_var 10))) (de_op o_mul (de_op o_sub (de_var 11) (de_var 9)) (de_op o_sub (de_var 8) (de_var 6)))))
  (dss_cons (ds_if (dt_cmp (o_eq hr.units) (de_var 2) de_int) (dss_one (ds_ret de_non)) dss_nil)
  (dss_cons (ds_set 3 nd (de_op o_sub (de_op o_add (de_op o_mul (de_op o_mul (de_op o_sub (de_var 9) (de_var 5)) (de_op o_sub (de_var 8) (de_var 6))) (de_op o_sub (de_var 12) (de_var 10))) (de_op o_mul (de_op o_mul (de_var 6) (de_op o_sub (de_var 7) (de_var 5))) (de_op o_sub (de_var 12) (de_var 10)))) (de_op o_mul (de_op o_mul (de_var 10) (de_op o_sub (de_var 11) (de_var 9))) (de_op o_sub (de_var 8) (de_var 6)))))
  (dss_cons (ds_set 4 nd (de_call d_ratio (hr.mono (by decide)) hG (takes_of rfl rfl rfl rfl) (da_cons (de_var 3) (da_cons (de_var 2) da_nil))))
  (dss_one (ds_ret (de_ifExp (PW.pt (dw_and (dt_tru (de_call d_goes_through (hr.mono (by decide)) hG (takes_of rfl rfl rfl rfl) (da_cons (de_var 0) (da_cons (de_var 4) (da_cons (de_var 4) da_nil))))) (dw_and1 (dt_tru (de_call d_goes_through (hr.mono (by decide)) hG (takes_of rfl rfl rfl rfl) (da_cons (de_var 1) (da_cons (de_var 4) (da_cons (de_var 4) da_nil)))))))) (de_var 4) de_non)))))))))) h_crossing_height
abbrev s_rising : Stmt := topS 26
theorem sc_rising : FnScope n_rising ["some"] (defScope s_rising) := ⟨rfl, rfl, rfl, by decide +kernel, rfl, by decide +kernel, by decide +kernel⟩
theorem ok_rising (B : Bi K mg) {c : Addr} (MK : Mk mg "rising" base c)  (T : TxC K mg "rising" s_rising c) : Df P w K mg base "rising" ["some"] 4 g_rising :=
  Df.ofC T sc_rising (fun _ _ _ _ _ _ us hl => match us, hl with | [_], _ => rfl) l_rising (fun f A outer s H E hr hG =>
  have nd := sc_rising.nd
  (dss_cons (ds_set 1 nd (de_callT (c_dictN rfl (room65 hr)) B.b_dict bt_dict (da_cons (de_lc (own := [("one", 3)]) rfl nd (di_items (de_var 0)) (blkOk_by (by show blkC n_rising (defScope s_rising) _ _ = true; decide +kernel)) (by decide) (fun _ _ _ _ _ => (dg_nm 3 nd)) (fun _ _ _ _ _ => dts_nil) (fun _ _ _ _ _ => (de_tup (da_cons (de_var 3) (da_cons de_bl da_nil))))) da_nil)))
  (dss_cons (ds_set 2 nd de_int)
  (dss_cons (ds_forK 1 (passes_of rfl) rfl (dg_nm 3 nd) (dss_one (ds_aug 2 nd (de_ix (de_var 3) de_int) a_mul)))
  (dss_one (ds_ret (de_sortKey (j := 1) (hr.mono (by decide)) hG rfl (lamAt_of (fr := ["scale"]) MK rfl rfl rfl (by show ndefB (defScope s_rising) _ ["scale"] = true; decide +kernel)) (fun b hb F lm => by obtain ⟨_, e, _⟩ := lm; cases F; cases e; exact LOk.mono (LOk.of (k := 0) (N := n_rising_lam1) (ps := ["one"]) (fr := ["scale"]) (te := te_rising_lam1) (nscope_by (by dsimp only; decide +kernel)) (fun _ _ us hl => match us, hl with | [_], _ => rfl) l_rising_lam1 (fun f A outer s H E hr hG => (de_op o_mul (de_ix (de_var 0) de_int) (de_op o_fdiv (de_var 1) (de_ix (de_var 0) de_int)))) h_rising_lam1) (by decide)) (hfr_of (fr := ["scale"]) (by show ndefB (defScope s_rising) _ ["scale"] = true; decide +kernel) (fun _ => rfl)) rfl B.b_sorted (de_var 1)))))))) h_rising
abbrev s_is_across : Stmt := topS 27
theorem sc_is_across : FnScope n_is_across ["side", "height", "edges"] (defScope s_is_across) := ⟨rfl, rfl, rfl, by decide +kernel, rfl, by decide +kernel, by decide +kernel⟩
theorem ok_is_across (B : Bi K mg) (T : Tx K mg "is_across" s_is_across) (d_at_height : Df P w K mg base "at_height" ["side", "height"] 5 g_at_height) : Df P w K mg base "is_across" ["side", "height", "edges"] 6 g_is_across :=
  Df.of T sc_is_across (fun _ _ _ _ _ _ us hl => match us, hl with | [_, _, _], _ => rfl) l_is_across (fun f cdv A outer s H E hr hG =>
  have nd := sc_is_across.nd
  (dss_cons (ds_set 3 nd (de_call d_at_height (hr.mono (by decide)) hG (takes_of rfl rfl rfl rfl) (da_cons (de_var 0) (da_cons (de_var 1) da_nil))))
  (dss_one (ds_ret (de_chain o_le o_le (de_op o_mul (de_ix (de_var 2) de_int) (de_ix (de_var 3) de_int)) (de_ix (de_var 3) de_int) (de_op o_mul (de_ix (de_var 2) de_int) (de_ix (de_var 3) de_int))))))) h_is_across
abbrev s_heights_of : Stmt := topS 28
theorem sc_heights_of : FnScope n_heights_of ["sides", "low", "high", "edges"] (defScope s_heights_of) := ⟨rfl, rfl, rfl, by decide +kernel, rfl, by decide +kernel, by decide +kernel⟩
theorem bn_heights_of_4 : BnD s_heights_of "heights_of" ["sides", "low", "high", "edges"] [] 4 1 [0, 1, 2, 3] := .inl ⟨by decide, fun kV doc pm an cdv ct T us its ws h1 h2 h3 => match us, its, ws, h1, h2, h3 with | [_, _, _, _], [_], [], _, _, _ => ⟨_, rfl, rfl⟩⟩
theorem ok_heights_of (B : Bi K mg) (T : TxD K mg "heights_of" "heights_of" s_heights_of [.non]) (d_rising : Df P w K mg base "rising" ["some"] 4 g_rising) (d_crossing_height : Df P w K mg base "crossing_height" ["one", "other"] 4 g_crossing_height) (d_whole : Df P w K mg base "whole" ["number"] 1 g_whole) (d_meeting : Df P w K mg base "meeting" ["side", "x"] 4 g_meeting) (d_is_below : Df P w K mg base "is_below" ["one", "other"] 1 g_is_below) (d_ends_of : Df P w K mg base "ends_of" ["side"] 1 g_ends_of) (d_is_across : Df P w K mg base "is_across" ["side", "height", "edges"] 6 g_is_across) : DfD P w K mg base "heights_of" "heights_of" s_heights_of [.non] ["sides", "low", "high", "edges"] 7 g_heights_of :=
  DfD.of T sc_heights_of l_heights_of (fun f cdv A outer s H E hr hG =>
  have nd := sc_heights_of.nd
  (dss_cons (ds_set 4 nd (de_lstN da_nil))
  (dss_cons (ds_for (passes_of rfl) rfl (di_enum B.b_enumerate (da_cons (de_var 0) da_nil)) (dg_tup rfl (dgs_cons (dg_nm 7 nd) (dgs_cons (dg_tup rfl (dgs_cons (dg_nm 8 nd) (dgs_cons (dg_nm 9 nd) dgs_nil)) (pl_of 2)) dgs_nil)) (pl_of 2)) (dss_cons (ds_expr (de_mtL PySem.F.slot_list_extend PySem.F.type_list_extend m_extend (de_var 4) (da_cons (de_lc (own := [("end", 14)]) rfl nd (di_items (de_call d_ends_of (hr.mono (by decide)) hG (takes_of rfl rfl rfl rfl) (da_cons (de_var 8) da_nil))) (blkOk_by (by show blkC n_heights_of (defScope s_heights_of) _ _ = true; decide +kernel)) (by decide) (fun _ _ _ _ _ => (dg_nm 14 nd)) (fun _ _ _ _ _ => dts_nil) (fun _ _ _ _ _ => (de_call d_whole (hr.mono (by decide)) hG takes0 (da_cons (de_var 14) da_nil)))) da_nil)))
  (dss_cons (ds_expr (de_mtL PySem.F.slot_list_extend PySem.F.type_list_extend m_extend (de_var 4) (da_cons (de_lc (own := [("x", 15)]) rfl nd (di_items (de_ifExp (dt_cmp o_is (de_var 3) de_non) (de_tup da_nil) (de_var 3))) (blkOk_by (by show blkC n_heights_of (defScope s_heights_of) _ _ = true; decide +kernel)) (by decide) (fun _ _ _ _ _ => (dg_nm 15 nd)) (fun _ _ _ _ _ => dts_nil) (fun _ _ _ _ _ => (de_call d_meeting (hr.mono (by decide)) hG takes0 (da_cons (de_var 8) (da_cons (de_var 15) da_nil))))) da_nil)))
  (dss_one (ds_for (passes_of rfl) rfl (di_items (de_slice (de_var 0) do_none (do_some (de_var 7)))) (dg_tup rfl (dgs_cons (dg_nm 10 nd) (dgs_cons (dg_nm 11 nd) dgs_nil)) (pl_of 2)) (dss_cons (ds_set 12 nd (de_call d_crossing_height (hr.mono (by decide)) hG (takes_of rfl rfl rfl rfl) (da_cons (de_var 8) (da_cons (de_var 10) da_nil))))
  (dss_one (ds_if (PW.pt (dw_and (dt_cmp o_isnot (de_var 12) de_non) (dw_and1 (PW.pt (dw_or (dt_cmp o_is (de_var 3) de_non) (dw_or1 (dt_tru (de_call d_is_across (hr.mono (by decide)) hG (takes_of rfl rfl rfl rfl) (da_cons (de_var 8) (da_cons (de_var 12) (da_cons (de_var 3) da_nil))))))))))) (dss_one (ds_expr (de_mtL PySem.F.slot_list_append PySem.F.type_list_append m_append (de_var 4) (da_cons (de_var 12) da_nil)))) dss_nil))))))))
  (dss_cons (ds_setLcL 4 5 (own := [("one", 13)]) rfl nd (blkOk_by (by show blkC n_heights_of (defScope s_heights_of) _ _ = true; decide +kernel)) (by decide) (fun _ _ _ _ _ => (dg_nm 13 nd)) (fun _ _ _ _ _ => (dts_one (dt_cmp o_isnot (de_var 13) de_non))) (fun _ _ _ _ _ => (de_var 13)))
  (dss_cons (ds_setLc 6 (own := [("one", 13)]) rfl nd (di_items (de_var 5)) (blkOk_by (by show blkC n_heights_of (defScope s_heights_of) _ _ = true; decide +kernel)) (by decide) (fun _ _ _ _ _ => (dg_nm 13 nd)) (fun _ _ _ _ _ => (dts_one (PW.pt (dw_and (dt_tru (de_call d_is_below (hr.mono (by decide)) hG takes0 (da_cons (de_call d_whole (hr.mono (by decide)) hG takes0 (da_cons (de_var 1) da_nil)) (da_cons (de_var 13) da_nil)))) (dw_and1 (dt_tru (de_call d_is_below (hr.mono (by decide)) hG takes0 (da_cons (de_var 13) (da_cons (de_call d_whole (hr.mono (by decide)) hG takes0 (da_cons (de_var 2) da_nil)) da_nil))))))))) (fun _ _ _ _ _ => (de_var 13)))
  (dss_one (ds_ret (de_callT c_tup B.b_tuple bt_tuple (da_cons (de_call d_rising (hr.mono (by decide)) hG (takes_of rfl rfl rfl rfl) (da_cons (de_op o_add (de_var 6) (de_lst (da_cons (de_call d_whole (hr.mono (by decide)) hG (takes_of rfl rfl rfl rfl) (da_cons (de_var 1) da_nil)) (da_cons (de_call d_whole (hr.mono (by decide)) hG (takes_of rfl rfl rfl rfl) (da_cons (de_var 2) da_nil)) da_nil)))) da_nil)) da_nil))))))))) h_heights_of
abbrev s_heights_in : Stmt := topS 29
theorem sc_heights_in : FnScope n_heights_in ["path", "page", "cell"] (defScope s_heights_in) := ⟨rfl, rfl, rfl, by decide +kernel, rfl, by decide +kernel, by decide +kernel⟩
theorem ok_heights_in (B : Bi K mg) (T : Tx K mg "heights_in" s_heights_in) (d_cell_edges : Df P w K mg base "cell_edges" ["page", "cell"] 3 g_cell_edges) (d_heights_of : DfD P w K mg base "heights_of" "heights_of" s_heights_of [.non] ["sides", "low", "high", "edges"] 7 g_heights_of) (d_sloped : Df P w K mg base "sloped" ["path"] 3 g_sloped) : Df P w K mg base "heights_in" ["path", "page", "cell"] 8 g_heights_in :=
  Df.of T sc_heights_in (fun _ _ _ _ _ _ us hl => match us, hl with | [_, _, _], _ => rfl) l_heights_in (fun f cdv A outer s H E hr hG =>
  have nd := sc_heights_in.nd
  (dss_cons (ds_asg (de_call d_cell_edges (hr.mono (by decide)) hG (takes_of rfl rfl rfl rfl) (da_cons (de_var 1) (da_cons (de_var 2) da_nil))) (dg_tup rfl (dgs_cons (dg_nm 3 nd) (dgs_cons (dg_nm 4 nd) (dgs_cons (dg_nm 5 nd) (dgs_cons (dg_nm 6 nd) dgs_nil)))) (pl_of 4)))
  (dss_one (ds_ret (de_callN d_heights_of (hr.mono (by decide)) hG (takes_of rfl rfl rfl rfl) bn_heights_of_4 rfl (da_cons (de_call d_sloped (hr.mono (by decide)) hG (takes_of rfl rfl rfl rfl) (da_cons (de_var 0) da_nil)) (da_cons (de_var 4) (da_cons (de_var 6) (da_cons (de_tup (da_cons (de_var 3) (da_cons (de_var 5) da_nil))) da_nil)))) dk_nil))))) h_heights_in
abbrev s__law_tape : Stmt := topS 31
theorem sc__law_tape : FnScope n__law_tape ["script"] (defScope s__law_tape) := ⟨rfl, rfl, rfl, by decide +kernel, rfl, by decide +kernel, by decide +kernel⟩
theorem ok__law_tape (B : Bi K mg) (T : Tx K mg "_law_tape" s__law_tape)  : Df P w K mg base "_law_tape" ["script"] 1 g__law_tape :=
  Df.of T sc__law_tape (fun _ _ _ _ _ _ us hl => match us, hl with | [_], _ => rfl) l__law_tape (fun f cdv A outer s H E hr hG =>
  have nd := sc__law_tape.nd
  (dss_one (ds_ret (de_lstN (da_cons (de_slice (de_var 0) do_none (do_some de_int)) (da_cons de_int (da_cons de_int (da_cons de_int da_nil)))))))) h__law_tape
abbrev s__law_draw : Stmt := topS 32
theorem sc__law_draw : FnScope n__law_draw ["tape", "many"] (defScope s__law_draw) := ⟨rfl, rfl, rfl, by decide +kernel, rfl, by decide +kernel, by decide +kernel⟩
theorem ok__law_draw (B : Bi K mg) (T : Tx K mg "_law_draw" s__law_draw)  : Df P w K mg base "_law_draw" ["tape", "many"] 1 g__law_draw :=
  Df.of T sc__law_draw (fun _ _ _ _ _ _ us hl => match us, hl with | [_, _], _ => rfl) l__law_draw (fun f cdv A outer s H E hr hG =>
  have nd := sc__law_draw.nd
  (dss_cons (ds_set 2 nd (de_op o_add (de_ix (de_var 0) de_int) de_int))
  (dss_cons (ds_sub (de_var 2) (de_var 0) de_int)
  (dss_cons (ds_if (dt_cmp o_gt (de_ix (de_var 0) de_int) de_int) (dss_cons (ds_set 6 nd (de_op o_mod (de_ix (de_var 0) de_int) (de_var 1)))
  (dss_cons (ds_sub (de_op o_fdiv (de_ix (de_var 0) de_int) (de_var 1)) (de_var 0) de_int)
  (dss_one (ds_ret (de_var 6))))) dss_nil)
  (dss_cons (ds_set 3 nd (de_ix (de_var 0) de_int))
  (dss_cons (ds_sub (de_op o_add (de_var 3) de_int) (de_var 0) de_int)
  (dss_cons (ds_set 4 nd (de_ifExp (dt_cmp (o_ne hr.units) (de_ix (de_var 0) de_int) (de_lst da_nil)) (de_ix (de_ix (de_var 0) de_int) (de_op o_mod (de_var 3) (de_callB c_len B.b_len bt_len (da_cons (de_ix (de_var 0) de_int) da_nil)))) de_int))
  (dss_cons (ds_if (PW.pt (dw_and (dt_cmp o_ge (de_var 4) (de_op o_pow de_int de_int)) (dw_and1 (dt_cmp o_lt (de_var 3) (de_callB c_len B.b_len bt_len (da_cons (de_ix (de_var 0) de_int) da_nil)))))) (dss_cons (ds_sub (de_op o_fdiv (de_var 4) (de_var 1)) (de_var 0) de_int)
  (dss_one (ds_ret (de_op o_mod (de_var 4) (de_var 1))))) dss_nil)
  (dss_cons (ds_set 5 nd (de_op o_mod (de_op o_pow (de_op o_add (de_op o_add (de_op o_mod (de_var 4) de_int) (de_op o_mul de_int (de_var 2))) de_int) de_int) de_int))
  (dss_one (ds_ret (de_op o_mod (de_op o_fdiv (de_op o_mod (de_op o_pow (de_op o_add (de_var 5) (de_op o_mul de_int (de_var 2))) de_int) de_int) de_int) (de_var 1))))))))))))) h__law_draw
abbrev s__law_ratio : Stmt := topS 33
theorem sc__law_ratio : FnScope n__law_ratio ["a", "b"] (defScope s__law_ratio) := ⟨rfl, rfl, rfl, by decide +kernel, rfl, by decide +kernel, by decide +kernel⟩
theorem ok__law_ratio (B : Bi K mg) (T : Tx K mg "_law_ratio" s__law_ratio)  : Df P w K mg base "_law_ratio" ["a", "b"] 1 g__law_ratio :=
  Df.of T sc__law_ratio (fun _ _ _ _ _ _ us hl => match us, hl with | [_, _], _ => rfl) l__law_ratio (fun f cdv A outer s H E hr hG =>
  have nd := sc__law_ratio.nd
  (dss_cons (ds_par 2 3 rfl nd (da_cons (de_callB c_abs B.b_abs bt_abs (da_cons (de_var 0) da_nil)) (da_cons (de_callB c_abs B.b_abs bt_abs (da_cons (de_var 1) da_nil)) da_nil)))
  (dss_cons (ds_while (passes_of rfl) (dt_cmp (o_ne hr.units) (de_var 3) de_int) (dss_one (ds_par 2 3 rfl nd (da_cons (de_var 3) (da_cons (de_op o_mod (de_var 2) (de_var 3)) da_nil)))))
  (dss_cons (ds_set 2 nd (de_ifExp (dt_cmp o_gt (de_var 1) de_int) (de_var 2) (de_op o_sub de_int (de_var 2))))
  (dss_one (ds_ret (de_tup (da_cons (de_op o_fdiv (de_var 0) (de_var 2)) (da_cons (de_op o_fdiv (de_var 1) (de_var 2)) da_nil))))))))) h__law_ratio
abbrev s__law_over : Stmt := topS 34
theorem sc__law_over : FnScope n__law_over ["one", "other"] (defScope s__law_over) := ⟨rfl, rfl, rfl, by decide +kernel, rfl, by decide +kernel, by decide +kernel⟩
theorem ok__law_over (B : Bi K mg) (T : Tx K mg "_law_over" s__law_over)  : Df P w K mg base "_law_over" ["one", "other"] 1 g__law_over :=
  Df.of T sc__law_over (fun _ _ _ _ _ _ us hl => match us, hl with | [_, _], _ => rfl) l__law_over (fun f cdv A outer s H E hr hG =>
  have nd := sc__law_over.nd
  (dss_cons (ds_set 2 nd (de_op o_sub (de_op o_mul (de_ix (de_var 0) de_int) (de_ix (de_var 1) de_int)) (de_op o_mul (de_ix (de_var 1) de_int) (de_ix (de_var 0) de_int))))
  (dss_one (ds_ret (de_op o_sub (de_callT c_int B.b_int bt_int (da_cons (de_cmp o_gt (de_var 2) de_int) da_nil)) (de_callT c_int B.b_int bt_int (da_cons (de_cmp o_lt (de_var 2) de_int) da_nil))))))) h__law_over
abbrev s__law_page : Stmt := topS 35
theorem sc__law_page : FnScope n__law_page ["tape", "most"] (defScope s__law_page) := ⟨rfl, rfl, rfl, by decide +kernel, rfl, by decide +kernel, by decide +kernel⟩
theorem ok__law_page (B : Bi K mg) (T : Tx K mg "_law_page" s__law_page) (d__law_draw : Df P w K mg base "_law_draw" ["tape", "many"] 1 g__law_draw) : Df P w K mg base "_law_page" ["tape", "most"] 2 g__law_page :=
  Df.of T sc__law_page (fun _ _ _ _ _ _ us hl => match us, hl with | [_, _], _ => rfl) l__law_page (fun f cdv A outer s H E hr hG =>
  have nd := sc__law_page.nd
  (dss_one (ds_ret (de_tup (da_cons (de_op o_add de_int (de_call d__law_draw (hr.mono (by decide)) hG (takes_of rfl rfl rfl rfl) (da_cons (de_var 0) (da_cons (de_var 1) da_nil)))) (da_cons (de_op o_add de_int (de_call d__law_draw (hr.mono (by decide)) hG (takes_of rfl rfl rfl rfl) (da_cons (de_var 0) (da_cons (de_var 1) da_nil)))) (da_cons (de_ix (de_lst (da_cons de_int (da_cons de_int (da_cons de_int (da_cons de_int (da_cons de_int (da_cons de_int da_nil))))))) (de_call d__law_draw (hr.mono (by decide)) hG (takes_of rfl rfl rfl rfl) (da_cons (de_var 0) (da_cons de_int da_nil)))) da_nil))))))) h__law_page
abbrev s__law_coordinate : Stmt := topS 36
theorem sc__law_coordinate : FnScope n__law_coordinate ["tape", "many", "step"] (defScope s__law_coordinate) := ⟨rfl, rfl, rfl, by decide +kernel, rfl, by decide +kernel, by decide +kernel⟩
theorem ok__law_coordinate (B : Bi K mg) (T : Tx K mg "_law_coordinate" s__law_coordinate) (d__law_draw : Df P w K mg base "_law_draw" ["tape", "many"] 1 g__law_draw) : Df P w K mg base "_law_coordinate" ["tape", "many", "step"] 2 g__law_coordinate :=
  Df.of T sc__law_coordinate (fun _ _ _ _ _ _ us hl => match us, hl with | [_, _, _], _ => rfl) l__law_coordinate (fun f cdv A outer s H E hr hG =>
  have nd := sc__law_coordinate.nd
  (dss_cons (ds_set 3 nd (de_lstN (da_cons (de_op o_mul (de_var 2) (de_call d__law_draw (hr.mono (by decide)) hG (takes_of rfl rfl rfl rfl) (da_cons (de_var 0) (da_cons (de_op o_add (de_var 1) de_int) da_nil)))) (da_cons (de_call d__law_draw (hr.mono (by decide)) hG (takes_of rfl rfl rfl rfl) (da_cons (de_var 0) (da_cons (de_op o_add (de_op o_mul (de_var 1) (de_var 2)) de_int) da_nil))) da_nil))))
  (dss_cons (ds_expr (de_mtL PySem.F.slot_list_append PySem.F.type_list_append m_append (de_var 3) (da_cons (de_callB (c_min rfl) B.b_min bt_min (da_cons de_int (da_cons (de_op o_sub (de_call d__law_draw (hr.mono (by decide)) hG (takes_of rfl rfl rfl rfl) (da_cons (de_var 0) (da_cons (de_op o_add (de_op o_mul (de_op o_add (de_var 1) de_int) (de_var 2)) de_int) da_nil))) (de_var 2)) da_nil))) da_nil)))
  (dss_cons (ds_expr (de_mtL PySem.F.slot_list_append PySem.F.type_list_append m_append (de_var 3) (da_cons (de_ix (de_lst (da_cons de_int (da_cons (de_un o_neg de_int) (da_cons (de_un o_neg de_int) (da_cons de_int da_nil))))) (de_call d__law_draw (hr.mono (by decide)) hG (takes_of rfl rfl rfl rfl) (da_cons (de_var 0) (da_cons de_int da_nil)))) da_nil)))
  (dss_one (ds_ret (de_ix (de_var 3) (de_ix (de_lst (da_cons de_int (da_cons de_int (da_cons de_int (da_cons de_int (da_cons de_int (da_cons de_int (da_cons de_int (da_cons de_int da_nil))))))))) (de_call d__law_draw (hr.mono (by decide)) hG (takes_of rfl rfl rfl rfl) (da_cons (de_var 0) (da_cons de_int da_nil))))))))))) h__law_coordinate
abbrev s__law_ring : Stmt := topS 37
theorem sc__law_ring : FnScope n__law_ring ["tape", "page", "most", "ahead"] (defScope s__law_ring) := ⟨rfl, rfl, rfl, by decide +kernel, rfl, by decide +kernel, by decide +kernel⟩
theorem ok__law_ring (B : Bi K mg) (T : Tx K mg "_law_ring" s__law_ring) (d__law_draw : Df P w K mg base "_law_draw" ["tape", "many"] 1 g__law_draw) (d__law_coordinate : Df P w K mg base "_law_coordinate" ["tape", "many", "step"] 2 g__law_coordinate) : Df P w K mg base "_law_ring" ["tape", "page", "most", "ahead"] 3 g__law_ring :=
  Df.of T sc__law_ring (fun _ _ _ _ _ _ us hl => match us, hl with | [_, _, _, _], _ => rfl) l__law_ring (fun f cdv A outer s H E hr hG =>
  have nd := sc__law_ring.nd
  (dss_cons (ds_par 6 7 rfl nd (da_cons (de_call d__law_draw (hr.mono (by decide)) hG (takes_of rfl rfl rfl rfl) (da_cons (de_var 0) (da_cons de_int da_nil))) (da_cons (de_callB (c_min rfl) B.b_min bt_min (da_cons (de_var 2) (da_cons (de_op o_add de_int (de_call d__law_draw (hr.mono (by decide)) hG (takes_of rfl rfl rfl rfl) (da_cons (de_var 0) (da_cons de_int da_nil)))) da_nil))) da_nil)))
  (dss_cons (ds_set 4 nd (de_lstN da_nil))
  (dss_cons (ds_for (passes_of rfl) rfl (di_rng1 B.b_range (da_cons (de_var 7) da_nil)) (dg_nm 5 nd) (dss_cons (ds_set 8 nd (de_call d__law_coordinate (hr.mono (by decide)) hG (takes_of rfl rfl rfl rfl) (da_cons (de_var 0) (da_cons (de_ix (de_var 1) de_int) (da_cons (de_ix (de_var 1) de_int) da_nil)))))
  (dss_one (ds_expr (de_mtL PySem.F.slot_list_append PySem.F.type_list_append m_append (de_var 4) (da_cons (de_tup (da_cons (de_var 8) (da_cons (de_call d__law_coordinate (hr.mono (by decide)) hG (takes_of rfl rfl rfl rfl) (da_cons (de_var 0) (da_cons (de_ix (de_var 1) de_int) (da_cons (de_ix (de_var 1) de_int) da_nil)))) da_nil))) da_nil))))))
  (dss_cons (ds_if (PW.pt (dw_and (dt_cmp (o_eq hr.units) (de_var 6) de_int) (dw_and1 (dt_cmp o_gt (de_var 2) de_int)))) (dss_cons (ds_asg (de_tup (da_cons (de_ix (de_var 4) de_int) (da_cons (de_ix (de_var 4) de_int) da_nil))) (dg_tup rfl (dgs_cons (dg_tup rfl (dgs_cons (dg_nm 9 nd) (dgs_cons (dg_nm 10 nd) dgs_nil)) (pl_of 2)) (dgs_cons (dg_tup rfl (dgs_cons (dg_nm 11 nd) (dgs_cons (dg_nm 12 nd) dgs_nil)) (pl_of 2)) dgs_nil)) (pl_of 2)))
  (dss_one (ds_set 4 nd (de_stepL (de_lst (da_cons (de_tup (da_cons (de_var 9) (da_cons (de_var 10) da_nil))) (da_cons (de_tup (da_cons (de_var 9) (da_cons (de_var 12) da_nil))) (da_cons (de_tup (da_cons (de_var 11) (da_cons (de_var 12) da_nil))) (da_cons (de_tup (da_cons (de_var 11) (da_cons (de_var 10) da_nil))) da_nil))))) (de_ix (de_lst (da_cons de_int (da_cons (de_un o_neg de_int) da_nil))) (de_call d__law_draw (hr.mono (by decide)) hG (takes_of rfl rfl rfl rfl) (da_cons (de_var 0) (da_cons de_int da_nil)))))))) dss_nil)
  (dss_cons (ds_if (PW.pt (dw_and (dt_cmp (o_eq hr.units) (de_var 6) de_int) (dw_and1 (dt_cmp o_gt (de_var 2) de_int)))) (dss_one (ds_set 4 nd (de_op o_mul (de_slice (de_var 4) do_none (do_some de_int)) de_int))) dss_nil)
  (dss_cons (ds_if (dt_cmp (o_eq hr.units) (de_var 6) de_int) (dss_one (ds_set 4 nd (de_slice (de_var 4) do_none (do_some (de_call d__law_draw (hr.mono (by decide)) hG (takes_of rfl rfl rfl rfl) (da_cons (de_var 0) (da_cons de_int da_nil))))))) dss_nil)
  (dss_cons (ds_if (PW.pt (dw_and (dt_cmp (o_eq hr.units) (de_var 6) de_int) (dw_and1 (dt_chain o_lt o_le de_int (de_callB c_len B.b_len bt_len (da_cons (de_var 3) da_nil)) (de_var 2))))) (dss_one (ds_set 4 nd (de_stepL (de_callT c_lst B.b_list bt_list (da_cons (de_var 3) da_nil)) (de_ix (de_lst (da_cons de_int (da_cons (de_un o_neg de_int) da_nil))) (de_call d__law_draw (hr.mono (by decide)) hG (takes_of rfl rfl rfl rfl) (da_cons (de_var 0) (da_cons de_int da_nil))))))) dss_nil)
  (dss_one (ds_ret (de_callT c_tup B.b_tuple bt_tuple (da_cons (de_var 4) da_nil)))))))))))) h__law_ring
abbrev s__law_path : Stmt := topS 38
theorem sc__law_path : FnScope n__law_path ["tape", "page", "most"] (defScope s__law_path) := ⟨rfl, rfl, rfl, by decide +kernel, rfl, by decide +kernel, by decide +kernel⟩
theorem ok__law_path (B : Bi K mg) (T : Tx K mg "_law_path" s__law_path) (d__law_ring : Df P w K mg base "_law_ring" ["tape", "page", "most", "ahead"] 3 g__law_ring) (d__law_draw : Df P w K mg base "_law_draw" ["tape", "many"] 1 g__law_draw) : Df P w K mg base "_law_path" ["tape", "page", "most"] 4 g__law_path :=
  Df.of T sc__law_path (fun _ _ _ _ _ _ us hl => match us, hl with | [_, _, _], _ => rfl) l__law_path (fun f cdv A outer s H E hr hG =>
  have nd := sc__law_path.nd
  (dss_cons (ds_par3 3 4 5 rfl nd (da_cons (de_lstN da_nil) (da_cons (de_var 2) (da_cons (de_tup da_nil) da_nil))))
  (dss_cons (ds_while (passes_of rfl) (PW.pt (dw_and (dt_cmp o_gt (de_var 4) de_int) (dw_and (dt_cmp o_lt (de_callB c_len B.b_len bt_len (da_cons (de_var 3) da_nil)) de_int) (dw_and1 (PW.pt (dw_or (dt_cmp (o_eq hr.units) (de_var 3) (de_lst da_nil)) (dw_or1 (dt_cmp o_gt (de_call d__law_draw (hr.mono (by decide)) hG (takes_of rfl rfl rfl rfl) (da_cons (de_var 0) (da_cons de_int da_nil))) de_int)))))))) (dss_cons (ds_set 5 nd (de_call d__law_ring (hr.mono (by decide)) hG (takes_of rfl rfl rfl rfl) (da_cons (de_var 0) (da_cons (de_var 1) (da_cons (de_var 4) (da_cons (de_var 5) da_nil))))))
  (dss_cons (ds_expr (de_mtL PySem.F.slot_list_append PySem.F.type_list_append m_append (de_var 3) (da_cons (de_var 5) da_nil)))
  (dss_one (ds_set 4 nd (de_op o_sub (de_var 4) (de_callB c_len B.b_len bt_len (da_cons (de_var 5) da_nil))))))))
  (dss_one (ds_ret (de_callT c_tup B.b_tuple bt_tuple (da_cons (de_var 3) da_nil))))))) h__law_path
abbrev s__law_sides : Stmt := topS 39
theorem sc__law_sides : FnScope n__law_sides ["path"] (defScope s__law_sides) := ⟨rfl, rfl, rfl, by decide +kernel, rfl, by decide +kernel, by decide +kernel⟩
theorem ok__law_sides (B : Bi K mg) (T : Tx K mg "_law_sides" s__law_sides)  : Df P w K mg base "_law_sides" ["path"] 1 g__law_sides :=
  Df.of T sc__law_sides (fun _ _ _ _ _ _ us hl => match us, hl with | [_], _ => rfl) l__law_sides (fun f cdv A outer s H E hr hG =>
  have nd := sc__law_sides.nd
  (dss_cons (ds_set 1 nd (de_lstN da_nil))
  (dss_cons (ds_for (passes_of rfl) rfl (di_items (de_var 0)) (dg_nm 2 nd) (dss_one (ds_for (passes_of rfl) rfl (di_rng1 B.b_range (da_cons (de_callB c_len B.b_len bt_len (da_cons (de_var 2) da_nil)) da_nil)) (dg_nm 3 nd) (dss_one (ds_expr (de_mtL PySem.F.slot_list_append PySem.F.type_list_append m_append (de_var 1) (da_cons (de_tup (da_cons (de_ix (de_var 2) (de_var 3)) (da_cons (de_ix (de_var 2) (de_op o_mod (de_op o_add (de_var 3) de_int) (de_callB c_len B.b_len bt_len (da_cons (de_var 2) da_nil)))) da_nil))) da_nil)))))))
  (dss_one (ds_ret (de_var 1)))))) h__law_sides
abbrev s__law_cells : Stmt := topS 40
theorem sc__law_cells : FnScope n__law_cells ["page"] (defScope s__law_cells) := ⟨rfl, rfl, rfl, by decide +kernel, rfl, by decide +kernel, by decide +kernel⟩
theorem ok__law_cells (B : Bi K mg) (T : Tx K mg "_law_cells" s__law_cells)  : Df P w K mg base "_law_cells" ["page"] 1 g__law_cells :=
  Df.of T sc__law_cells (fun _ _ _ _ _ _ us hl => match us, hl with | [_], _ => rfl) l__law_cells (fun f cdv A outer s H E hr hG =>
  have nd := sc__law_cells.nd
  (dss_cons (ds_set 1 nd (de_lstN da_nil))
  (dss_cons (ds_for (passes_of rfl) rfl (di_rng1 B.b_range (da_cons (de_ix (de_var 0) de_int) da_nil)) (dg_nm 2 nd) (dss_one (ds_expr (de_mtL PySem.F.slot_list_extend PySem.F.type_list_extend m_extend (de_var 1) (da_cons (de_lc (own := [("column", 3)]) rfl nd (di_rng1 B.b_range (da_cons (de_ix (de_var 0) de_int) da_nil)) (blkOk_by (by show blkC n__law_cells (defScope s__law_cells) _ _ = true; decide +kernel)) (by decide) (fun _ _ _ _ _ => (dg_nm 3 nd)) (fun _ _ _ _ _ => dts_nil) (fun _ _ _ _ _ => (de_tup (da_cons (de_var 3) (da_cons (de_var 2) da_nil))))) da_nil)))))
  (dss_one (ds_ret (de_var 1)))))) h__law_cells
abbrev s__law_edges : Stmt := topS 41
theorem sc__law_edges : FnScope n__law_edges ["page", "cell"] (defScope s__law_edges) := ⟨rfl, rfl, rfl, by decide +kernel, rfl, by decide +kernel, by decide +kernel⟩
theorem ok__law_edges (B : Bi K mg) (T : Tx K mg "_law_edges" s__law_edges)  : Df P w K mg base "_law_edges" ["page", "cell"] 1 g__law_edges :=
  Df.of T sc__law_edges (fun _ _ _ _ _ _ us hl => match us, hl with | [_, _], _ => rfl) l__law_edges (fun f cdv A outer s H E hr hG =>
  have nd := sc__law_edges.nd
  (dss_cons (ds_par 2 3 rfl nd (da_cons (de_op o_mul (de_ix (de_var 1) de_int) (de_ix (de_var 0) de_int)) (da_cons (de_op o_mul (de_ix (de_var 1) de_int) (de_ix (de_var 0) de_int)) da_nil)))
  (dss_one (ds_ret (de_tup (da_cons (de_var 2) (da_cons (de_var 3) (da_cons (de_op o_add (de_var 2) (de_ix (de_var 0) de_int)) (da_cons (de_op o_add (de_var 3) (de_ix (de_var 0) de_int)) da_nil))))))))) h__law_edges
abbrev s__law_is_ratio : Stmt := topS 42
theorem sc__law_is_ratio : FnScope n__law_is_ratio ["thing"] (defScope s__law_is_ratio) := ⟨rfl, rfl, rfl, by decide +kernel, rfl, by decide +kernel, by decide +kernel⟩
theorem ok__law_is_ratio (B : Bi K mg) (T : Tx K mg "_law_is_ratio" s__law_is_ratio) (d__law_ratio : Df P w K mg base "_law_ratio" ["a", "b"] 1 g__law_ratio) : Df P w K mg base "_law_is_ratio" ["thing"] 2 g__law_is_ratio :=
  Df.of T sc__law_is_ratio (fun _ _ _ _ _ _ us hl => match us, hl with | [_], _ => rfl) l__law_is_ratio (fun f cdv A outer s H E hr hG =>
  have nd := sc__law_is_ratio.nd
  (dss_cons (ds_if (PW.pt (dw_or (dt_not (dt_tru (de_callB c_isi B.b_isinstance bt_isinstance (da_cons (de_var 0) (da_cons (de_ty B.b_tuple bt_tuple) da_nil))))) (dw_or1 (dt_cmp (o_ne hr.units) (de_callB c_len B.b_len bt_len (da_cons (de_var 0) da_nil)) de_int)))) (dss_one (ds_ret de_bl)) dss_nil)
  (dss_cons (ds_if (PW.pt (dw_or (dt_cmp (o_ne hr.units) (de_lc (own := [("one", 1)]) rfl nd (di_items (de_var 0)) (blkOk_by (by show blkC n__law_is_ratio (defScope s__law_is_ratio) _ _ = true; decide +kernel)) (by decide) (fun _ _ _ _ _ => (dg_nm 1 nd)) (fun _ _ _ _ _ => (dts_one (PW.pt (dw_or (dt_not (dt_tru (de_callB c_isi B.b_isinstance bt_isinstance (da_cons (de_var 1) (da_cons (de_ty B.b_int bt_int) da_nil))))) (dw_or1 (dt_tru (de_callB c_isi B.b_isinstance bt_isinstance (da_cons (de_var 1) (da_cons (de_ty B.b_bool bt_bool) da_nil))))))))) (fun _ _ _ _ _ => (de_var 1))) (de_lst da_nil)) (dw_or1 (dt_cmp o_le (de_ix (de_var 0) de_int) de_int)))) (dss_one (ds_ret de_bl)) dss_nil)
  (dss_one (ds_ret (de_cmp (o_eq hr.units) (de_call d__law_ratio (hr.mono (by decide)) hG (takes_of rfl rfl rfl rfl) (da_cons (de_ix (de_var 0) de_int) (da_cons (de_ix (de_var 0) de_int) da_nil))) (de_var 0))))))) h__law_is_ratio
abbrev s__law_x : Stmt := topS 43
theorem sc__law_x : FnScope n__law_x ["side", "y"] (defScope s__law_x) := ⟨rfl, rfl, rfl, by decide +kernel, rfl, by decide +kernel, by decide +kernel⟩
theorem ok__law_x (B : Bi K mg) (T : Tx K mg "_law_x" s__law_x) (d__law_ratio : Df P w K mg base "_law_ratio" ["a", "b"] 1 g__law_ratio) : Df P w K mg base "_law_x" ["side", "y"] 2 g__law_x :=
  Df.of T sc__law_x (fun _ _ _ _ _ _ us hl => match us, hl with | [_, _], _ => rfl) l__law_x (fun f cdv A outer s H E hr hG =>
  have nd := sc__law_x.nd
  (dss_cons (ds_asg (de_var 0) (dg_tup rfl (dgs_cons (dg_tup rfl (dgs_cons (dg_nm 2 nd) (dgs_cons (dg_nm 3 nd) dgs_nil)) (pl_of 2)) (dgs_cons (dg_tup rfl (dgs_cons (dg_nm 4 nd) (dgs_cons (dg_nm 5 nd) dgs_nil)) (pl_of 2)) dgs_nil)) (pl_of 2)))
  (dss_one (ds_ret (de_call d__law_ratio (hr.mono (by decide)) hG (takes_of rfl rfl rfl rfl) (da_cons (de_op o_add (de_op o_mul (de_op o_mul (de_var 2) (de_op o_sub (de_var 5) (de_var 3))) (de_ix (de_var 1) de_int)) (de_op o_mul (de_op o_sub (de_ix (de_var 1) de_int) (de_op o_mul (de_var 3) (de_ix (de_var 1) de_int))) (de_op o_sub (de_var 4) (de_var 2)))) (da_cons (de_op o_mul (de_op o_sub (de_var 5) (de_var 3)) (de_ix (de_var 1) de_int)) da_nil))))))) h__law_x
abbrev s__law_between_right : Stmt := topS 44
theorem sc__law_between_right : FnScope n__law_between_right ["path", "edges", "low", "high"] (defScope s__law_between_right) := ⟨rfl, rfl, rfl, by decide +kernel, rfl, by decide +kernel, by decide +kernel⟩
theorem ok__law_between_right (B : Bi K mg) (T : Tx K mg "_law_between_right" s__law_between_right) (d__law_sides : Df P w K mg base "_law_sides" ["path"] 1 g__law_sides) (d__law_over : Df P w K mg base "_law_over" ["one", "other"] 1 g__law_over) (d__law_x : Df P w K mg base "_law_x" ["side", "y"] 2 g__law_x) : Df P w K mg base "_law_between_right" ["path", "edges", "low", "high"] 3 g__law_between_right :=
  Df.of T sc__law_between_right (fun _ _ _ _ _ _ us hl => match us, hl with | [_, _, _, _], _ => rfl) l__law_between_right (fun f cdv A outer s H E hr hG =>
  have nd := sc__law_between_right.nd
  (dss_cons (ds_asg (de_tup (da_cons (de_tup (da_cons (de_ix (de_var 1) de_int) (da_cons de_int da_nil))) (da_cons (de_tup (da_cons (de_ix (de_var 1) de_int) (da_cons de_int da_nil))) (da_cons (de_lstN da_nil) da_nil)))) (dg_tup rfl (dgs_cons (dg_nm 6 nd) (dgs_cons (dg_nm 7 nd) (dgs_cons (dg_nm 8 nd) dgs_nil))) (pl_of 3)))
  (dss_cons (ds_for (passes_of rfl) rfl (di_items (de_call d__law_sides (hr.mono (by decide)) hG (takes_of rfl rfl rfl rfl) (da_cons (de_var 0) da_nil))) (dg_nm 4 nd) (dss_cons (ds_par 10 11 rfl nd (da_cons (de_tup (da_cons (de_callB (c_min rfl) B.b_min bt_min (da_cons (de_ix (de_ix (de_var 4) de_int) de_int) (da_cons (de_ix (de_ix (de_var 4) de_int) de_int) da_nil))) (da_cons de_int da_nil))) (da_cons (de_tup (da_cons (de_callB (c_max rfl) B.b_max bt_max (da_cons (de_ix (de_ix (de_var 4) de_int) de_int) (da_cons (de_ix (de_ix (de_var 4) de_int) de_int) da_nil))) (da_cons de_int da_nil))) da_nil)))
  (dss_one (ds_if (PW.pt (dw_and (dt_cmp (o_ne hr.units) (de_var 10) (de_var 11)) (dw_and (dt_cmp o_lt (de_call d__law_over (hr.mono (by decide)) hG (takes_of rfl rfl rfl rfl) (da_cons (de_var 10) (da_cons (de_var 3) da_nil))) de_int) (dw_and1 (dt_cmp o_gt (de_call d__law_over (hr.mono (by decide)) hG (takes_of rfl rfl rfl rfl) (da_cons (de_var 11) (da_cons (de_var 2) da_nil))) de_int))))) (dss_cons (ds_if (PW.pt (dw_or (dt_cmp o_gt (de_call d__law_over (hr.mono (by decide)) hG (takes_of rfl rfl rfl rfl) (da_cons (de_var 10) (da_cons (de_var 2) da_nil))) de_int) (dw_or1 (dt_cmp o_lt (de_call d__law_over (hr.mono (by decide)) hG (takes_of rfl rfl rfl rfl) (da_cons (de_var 11) (da_cons (de_var 3) da_nil))) de_int)))) (dss_one (ds_ret de_bl)) dss_nil)
  (dss_cons (ds_set 12 nd (de_tup (da_cons (de_call d__law_x (hr.mono (by decide)) hG (takes_of rfl rfl rfl rfl) (da_cons (de_var 4) (da_cons (de_var 2) da_nil))) (da_cons (de_call d__law_x (hr.mono (by decide)) hG (takes_of rfl rfl rfl rfl) (da_cons (de_var 4) (da_cons (de_var 3) da_nil))) da_nil))))
  (dss_cons (ds_setLc 13 (own := [("x", 15)]) rfl nd (di_items (de_var 12)) (blkOk_by (by show blkC n__law_between_right (defScope s__law_between_right) _ _ = true; decide +kernel)) (by decide) (fun _ _ _ _ _ => (dg_nm 15 nd)) (fun _ _ _ _ _ => dts_nil) (fun _ _ _ _ _ => (de_cmp o_le (de_call d__law_over (hr.mono (by decide)) hG takes0 (da_cons (de_var 15) (da_cons (de_var 6) da_nil))) de_int)))
  (dss_cons (ds_setLc 14 (own := [("x", 15)]) rfl nd (di_items (de_var 12)) (blkOk_by (by show blkC n__law_between_right (defScope s__law_between_right) _ _ = true; decide +kernel)) (by decide) (fun _ _ _ _ _ => (dg_nm 15 nd)) (fun _ _ _ _ _ => dts_nil) (fun _ _ _ _ _ => (de_cmp o_ge (de_call d__law_over (hr.mono (by decide)) hG takes0 (da_cons (de_var 15) (da_cons (de_var 7) da_nil))) de_int)))
  (dss_one (ds_if (PW.pt (dw_and (dt_cmp (o_in (room65 hr)) de_bl (de_var 13)) (dw_and1 (dt_cmp (o_in (room65 hr)) de_bl (de_var 14))))) (dss_cons (ds_if (dt_cmp (o_ne hr.units) (de_lc (own := [("x", 15)]) rfl nd (di_items (de_var 12)) (blkOk_by (by show blkC n__law_between_right (defScope s__law_between_right) _ _ = true; decide +kernel)) (by decide) (fun _ _ _ _ _ => (dg_nm 15 nd)) (fun _ _ _ _ _ => (dts_one (PW.pt (dw_or (dt_cmp o_lt (de_call d__law_over (hr.mono (by decide)) hG takes0 (da_cons (de_var 15) (da_cons (de_var 6) da_nil))) de_int) (dw_or1 (dt_cmp o_gt (de_call d__law_over (hr.mono (by decide)) hG takes0 (da_cons (de_var 15) (da_cons (de_var 7) da_nil))) de_int)))))) (fun _ _ _ _ _ => (de_var 15))) (de_lst da_nil)) (dss_one (ds_ret de_bl)) dss_nil)
  (dss_one (ds_expr (de_mtL PySem.F.slot_list_append PySem.F.type_list_append m_append (de_var 8) (da_cons (de_var 12) da_nil))))) dss_nil)))))) dss_nil))))
  (dss_cons (ds_frz 8 (ds_for (passes_of rfl) rfl (di_items (de_var 8)) (dg_nm 5 nd) (dss_one (ds_for (passes_of rfl) rfl (di_items (de_var 8)) (dg_nm 9 nd) (dss_one (ds_if (dt_cmp o_lt (de_op o_mul (de_call d__law_over (hr.mono (by decide)) hG (takes_of rfl rfl rfl rfl) (da_cons (de_ix (de_var 5) de_int) (da_cons (de_ix (de_var 9) de_int) da_nil))) (de_call d__law_over (hr.mono (by decide)) hG (takes_of rfl rfl rfl rfl) (da_cons (de_ix (de_var 5) de_int) (da_cons (de_ix (de_var 9) de_int) da_nil)))) de_int) (dss_one (ds_ret de_bl)) dss_nil))))))
  (dss_one (ds_ret de_bl)))))) h__law_between_right
abbrev s__law_right : Stmt := topS 45
theorem sc__law_right : FnScope n__law_right ["path", "page", "cell"] (defScope s__law_right) := ⟨rfl, rfl, rfl, by decide +kernel, rfl, by decide +kernel, by decide +kernel⟩
theorem ok__law_right (B : Bi K mg) (T : Tx K mg "_law_right" s__law_right) (d_heights_in : Df P w K mg base "heights_in" ["path", "page", "cell"] 8 g_heights_in) (d__law_edges : Df P w K mg base "_law_edges" ["page", "cell"] 1 g__law_edges) (d__law_over : Df P w K mg base "_law_over" ["one", "other"] 1 g__law_over) (d__law_between_right : Df P w K mg base "_law_between_right" ["path", "edges", "low", "high"] 3 g__law_between_right) (d__law_is_ratio : Df P w K mg base "_law_is_ratio" ["thing"] 2 g__law_is_ratio) : Df P w K mg base "_law_right" ["path", "page", "cell"] 9 g__law_right :=
  Df.of T sc__law_right (fun _ _ _ _ _ _ us hl => match us, hl with | [_, _, _], _ => rfl) l__law_right (fun f cdv A outer s H E hr hG =>
  have nd := sc__law_right.nd
  (dss_cons (ds_par 3 4 rfl nd (da_cons (de_call d_heights_in (hr.mono (by decide)) hG (takes_of rfl rfl rfl rfl) (da_cons (de_var 0) (da_cons (de_var 1) (da_cons (de_var 2) da_nil)))) (da_cons (de_call d__law_edges (hr.mono (by decide)) hG (takes_of rfl rfl rfl rfl) (da_cons (de_var 1) (da_cons (de_var 2) da_nil))) da_nil)))
  (dss_cons (ds_if (PW.pt (dw_or (dt_not (dt_tru (de_callB c_isi B.b_isinstance bt_isinstance (da_cons (de_var 3) (da_cons (de_ty B.b_tuple bt_tuple) da_nil))))) (dw_or1 (dt_cmp (o_ne hr.units) (de_lc (own := [("one", 5)]) rfl nd (di_items (de_var 3)) (blkOk_by (by show blkC n__law_right (defScope s__law_right) _ _ = true; decide +kernel)) (by decide) (fun _ _ _ _ _ => (dg_nm 5 nd)) (fun _ _ _ _ _ => (dts_one (dt_not (dt_tru (de_call d__law_is_ratio (hr.mono (by decide)) hG takes0 (da_cons (de_var 5) da_nil)))))) (fun _ _ _ _ _ => (de_var 5))) (de_lst da_nil))))) (dss_one (ds_ret de_bl)) dss_nil)
  (dss_cons (ds_if (PW.pt (dw_or (dt_cmp o_lt (de_callB c_len B.b_len bt_len (da_cons (de_var 3) da_nil)) de_int) (dw_or (dt_cmp (o_ne hr.units) (de_ix (de_var 3) de_int) (de_tup (da_cons (de_ix (de_var 4) de_int) (da_cons de_int da_nil)))) (dw_or1 (dt_cmp (o_ne hr.units) (de_ix (de_var 3) (de_un o_neg de_int)) (de_tup (da_cons (de_ix (de_var 4) de_int) (da_cons de_int da_nil)))))))) (dss_one (ds_ret de_bl)) dss_nil)
  (dss_cons (ds_for (passes_of rfl) rfl (di_zip B.b_zip (da_cons (de_var 3) (da_cons (de_slice (de_var 3) (do_some de_int) do_none) da_nil))) (dg_tup rfl (dgs_cons (dg_nm 5 nd) (dgs_cons (dg_nm 6 nd) dgs_nil)) (pl_of 2)) (dss_one (ds_if (PW.pt (dw_or (dt_cmp o_ge (de_call d__law_over (hr.mono (by decide)) hG (takes_of rfl rfl rfl rfl) (da_cons (de_var 5) (da_cons (de_var 6) da_nil))) de_int) (dw_or1 (dt_not (dt_tru (de_call d__law_between_right (hr.mono (by decide)) hG (takes_of rfl rfl rfl rfl) (da_cons (de_var 0) (da_cons (de_var 4) (da_cons (de_var 5) (da_cons (de_var 6) da_nil)))))))))) (dss_one (ds_ret de_bl)) dss_nil)))
  (dss_one (ds_ret de_bl))))))) h__law_right
abbrev s_law : Stmt := topS 46
theorem sc_law : FnScope n_law ["script"] (defScope s_law) := ⟨rfl, rfl, rfl, by decide +kernel, rfl, by decide +kernel, by decide +kernel⟩
theorem ok_law (B : Bi K mg) {f : Addr} {fd : FuncData} (F : L2.Fun K "law" "law" s_law f fd) (d__law_tape : Df P w K mg base "_law_tape" ["script"] 1 g__law_tape) (d__law_page : Df P w K mg base "_law_page" ["tape", "most"] 2 g__law_page) (d__law_path : Df P w K mg base "_law_path" ["tape", "page", "most"] 4 g__law_path) (d__law_cells : Df P w K mg base "_law_cells" ["page"] 1 g__law_cells) (d__law_right : Df P w K mg base "_law_right" ["path", "page", "cell"] 9 g__law_right) (d_heights_in : Df P w K mg base "heights_in" ["path", "page", "cell"] 8 g_heights_in) (d__law_draw : Df P w K mg base "_law_draw" ["tape", "many"] 1 g__law_draw) : FnD P w K mg base 10 f fd ["script"] g_law :=
  FnD.of F sc_law l_law (fun cdv A outer s H E hr hG =>
  have nd := sc_law.nd
  (dss_cons (ds_set 1 nd (de_call d__law_tape (hr.mono (by decide)) hG (takes_of rfl rfl rfl rfl) (da_cons (de_var 0) da_nil)))
  (dss_cons (ds_set 2 nd (de_call d__law_page (hr.mono (by decide)) hG (takes_of rfl rfl rfl rfl) (da_cons (de_var 1) (da_cons de_int da_nil))))
  (dss_cons (ds_set 3 nd (de_call d__law_path (hr.mono (by decide)) hG (takes_of rfl rfl rfl rfl) (da_cons (de_var 1) (da_cons (de_var 2) (da_cons de_int da_nil)))))
  (dss_cons (ds_par 5 6 rfl nd (da_cons (de_callB (c_repr hG hr.units) B.b_repr bt_repr (da_cons (de_tup (da_cons (de_var 2) (da_cons (de_var 3) da_nil))) da_nil)) (da_cons (de_call d__law_cells (hr.mono (by decide)) hG (takes_of rfl rfl rfl rfl) (da_cons (de_var 2) da_nil)) da_nil)))
  (dss_cons (ds_for (passes_of rfl) rfl (di_rng1 B.b_range (da_cons (de_callB (c_min rfl) B.b_min bt_min (da_cons de_int (da_cons (de_callB c_len B.b_len bt_len (da_cons (de_var 6) da_nil)) da_nil))) da_nil)) (dg_nm 4 nd) (dss_one (ds_if (dt_not (dt_tru (de_call d__law_right (hr.mono (by decide)) hG (takes_of rfl rfl rfl rfl) (da_cons (de_var 3) (da_cons (de_var 2) (da_cons (de_mtL PySem.F.slot_list_pop PySem.F.type_list_pop m_popAt (de_var 6) (da_cons (de_call d__law_draw (hr.mono (by decide)) hG (takes_of rfl rfl rfl rfl) (da_cons (de_var 1) (da_cons (de_callB c_len B.b_len bt_len (da_cons (de_var 6) da_nil)) da_nil))) da_nil)) da_nil)))))) (dss_one (ds_ret de_bl)) dss_nil)))
  (dss_one (ds_ret (de_and (de_cmp (o_eq hr.units) (de_callB (c_repr hG hr.units) B.b_repr bt_repr (da_cons (de_tup (da_cons (de_var 2) (da_cons (de_var 3) da_nil))) da_nil)) (de_var 5)) (de_one (de_cmp (o_eq hr.units) (de_ix (de_call d_heights_in (hr.mono (by decide)) hG (takes_of rfl rfl rfl rfl) (da_cons (de_tup da_nil) (da_cons (de_tup (da_cons de_int (da_cons de_int (da_cons de_int da_nil)))) (da_cons (de_tup (da_cons de_int (da_cons de_int da_nil))) da_nil)))) de_int) (de_tup (da_cons de_int (da_cons de_int da_nil)))))))))))))) h_law
end
omit [Tbs] in
theorem all_mk {l : PySem.W.OpenLaw} {w : World} {K : PySem.W.Frag} {h : Heap} {mg : Str → Option Value} {fa : Addr} (X : K.In h) (G : h.Ns mainGlobals mg) (hfa : mg "law" = some (.ref fa))
    {cc16 cP16 : Addr} {ccl16 : Value} {cod16 : Option Addr} {cvs16 : Array Value} {csl16 : Array (Option Value)}
    {f0 f1 f2 f3 f4 f5 f6 f7 f8 f9 f10 f11 f12 f13 f14 f15 f16 f17 f18 f19 f20 f21 f22 f23 f24 f25 f26 f27 f28 f29 f30 f31 f32 f33 f34 f35 : Addr}
    {od0 an0 od1 an1 od2 an2 od3 an3 od4 an4 od5 an5 od6 an6 od7 an7 od8 an8 od9 an9 od10 an10 od11 an11 od12 an12 od13 an13 od14 an14 od15 an15 od16 an16 od17 an17 od18 an18 od19 an19 od20 an20 od21 an21 od22 an22 od23 an23 od24 an24 od25 an25 od26 an26 od27 an27 od28 an28 od29 an29 od30 an30 od31 an31 od32 an32 od33 an33 od34 an34 od35 an35 : Option Addr} {sl0 sl1 sl2 sl3 sl4 sl5 sl6 sl7 sl8 sl9 sl10 sl11 sl12 sl13 sl14 sl15 sl16 sl17 sl18 sl19 sl20 sl21 sl22 sl23 sl24 sl25 sl26 sl27 sl28 sl29 sl30 sl31 sl32 sl33 sl34 sl35 : Array (Option Value)}
    {oc0 kV0 dc0 pm0 ct0 cd0 oc1 kV1 dc1 pm1 ct1 cd1 oc2 kV2 dc2 pm2 ct2 cd2 oc3 kV3 dc3 pm3 ct3 cd3 oc4 kV4 dc4 pm4 ct4 cd4 oc5 kV5 dc5 pm5 ct5 cd5 oc6 kV6 dc6 pm6 ct6 cd6 oc7 kV7 dc7 pm7 ct7 cd7 oc8 kV8 dc8 pm8 ct8 cd8 oc9 kV9 dc9 pm9 ct9 cd9 oc10 kV10 dc10 pm10 ct10 cd10 oc11 kV11 dc11 pm11 ct11 cd11 oc12 kV12 dc12 pm12 ct12 cd12 oc13 kV13 dc13 pm13 ct13 cd13 oc14 kV14 dc14 pm14 ct14 cd14 oc15 kV15 dc15 pm15 ct15 cd15 oc16 kV16 dc16 pm16 ct16 oc17 kV17 dc17 pm17 ct17 cd17 oc18 kV18 dc18 pm18 ct18 cd18 oc19 kV19 dc19 pm19 ct19 cd19 oc20 kV20 dc20 pm20 ct20 cd20 oc21 kV21 dc21 pm21 ct21 cd21 oc22 kV22 dc22 pm22 ct22 cd22 oc23 kV23 dc23 pm23 ct23 cd23 oc24 kV24 dc24 pm24 ct24 cd24 oc25 kV25 dc25 pm25 ct25 cd25 oc26 kV26 dc26 pm26 ct26 cd26 oc27 kV27 dc27 pm27 ct27 cd27 oc28 kV28 dc28 pm28 ct28 cd28 oc29 kV29 dc29 pm29 ct29 cd29 oc30 kV30 dc30 pm30 ct30 cd30 oc31 kV31 dc31 pm31 ct31 cd31 oc32 kV32 dc32 pm32 ct32 cd32 oc33 kV33 dc33 pm33 ct33 cd33 oc34 kV34 dc34 pm34 ct34 cd34 oc35 kV35 dc35 pm35 ct35 cd35 : Value}
    (a0 : PySem.W.nsIn K mainGlobals "common_divisor" = some (some (.ref f0))) (l0 : K.lookup f0 = some ⟨oc0, od0, .func (PySem.W.fnOf "common_divisor" "common_divisor" (defArgs s_common_divisor) (defBody s_common_divisor) (defScope s_common_divisor) .none kV0 dc0 pm0 an0 cd0 ct0), sl0⟩) (c0 : PySem.W.codeIn K cd0 "common_divisor" = true) (k0 : PySem.W.keepIn K (.ref f0) = true)
    (a1 : PySem.W.nsIn K mainGlobals "ratio" = some (some (.ref f1))) (l1 : K.lookup f1 = some ⟨oc1, od1, .func (PySem.W.fnOf "ratio" "ratio" (defArgs s_ratio) (defBody s_ratio) (defScope s_ratio) .none kV1 dc1 pm1 an1 cd1 ct1), sl1⟩) (c1 : PySem.W.codeIn K cd1 "ratio" = true) (k1 : PySem.W.keepIn K (.ref f1) = true)
    (a2 : PySem.W.nsIn K mainGlobals "added" = some (some (.ref f2))) (l2 : K.lookup f2 = some ⟨oc2, od2, .func (PySem.W.fnOf "added" "added" (defArgs s_added) (defBody s_added) (defScope s_added) .none kV2 dc2 pm2 an2 cd2 ct2), sl2⟩) (c2 : PySem.W.codeIn K cd2 "added" = true) (k2 : PySem.W.keepIn K (.ref f2) = true)
    (a3 : PySem.W.nsIn K mainGlobals "is_below" = some (some (.ref f3))) (l3 : K.lookup f3 = some ⟨oc3, od3, .func (PySem.W.fnOf "is_below" "is_below" (defArgs s_is_below) (defBody s_is_below) (defScope s_is_below) .none kV3 dc3 pm3 an3 cd3 ct3), sl3⟩) (c3 : PySem.W.codeIn K cd3 "is_below" = true) (k3 : PySem.W.keepIn K (.ref f3) = true)
    (a4 : PySem.W.nsIn K mainGlobals "ring_sides" = some (some (.ref f4))) (l4 : K.lookup f4 = some ⟨oc4, od4, .func (PySem.W.fnOf "ring_sides" "ring_sides" (defArgs s_ring_sides) (defBody s_ring_sides) (defScope s_ring_sides) .none kV4 dc4 pm4 an4 cd4 ct4), sl4⟩) (c4 : PySem.W.codeIn K cd4 "ring_sides" = true) (k4 : PySem.W.keepIn K (.ref f4) = true)
    (a5 : PySem.W.nsIn K mainGlobals "sides_of" = some (some (.ref f5))) (l5 : K.lookup f5 = some ⟨oc5, od5, .func (PySem.W.fnOf "sides_of" "sides_of" (defArgs s_sides_of) (defBody s_sides_of) (defScope s_sides_of) .none kV5 dc5 pm5 an5 cd5 ct5), sl5⟩) (c5 : PySem.W.codeIn K cd5 "sides_of" = true) (k5 : PySem.W.keepIn K (.ref f5) = true)
    (a6 : PySem.W.nsIn K mainGlobals "sign_of" = some (some (.ref f6))) (l6 : K.lookup f6 = some ⟨oc6, od6, .func (PySem.W.fnOf "sign_of" "sign_of" (defArgs s_sign_of) (defBody s_sign_of) (defScope s_sign_of) .none kV6 dc6 pm6 an6 cd6 ct6), sl6⟩) (c6 : PySem.W.codeIn K cd6 "sign_of" = true) (k6 : PySem.W.keepIn K (.ref f6) = true)
    (a7 : PySem.W.nsIn K mainGlobals "at_height" = some (some (.ref f7))) (l7 : K.lookup f7 = some ⟨oc7, od7, .func (PySem.W.fnOf "at_height" "at_height" (defArgs s_at_height) (defBody s_at_height) (defScope s_at_height) .none kV7 dc7 pm7 an7 cd7 ct7), sl7⟩) (c7 : PySem.W.codeIn K cd7 "at_height" = true) (k7 : PySem.W.keepIn K (.ref f7) = true)
    (a8 : PySem.W.nsIn K mainGlobals "is_cell" = some (some (.ref f8))) (l8 : K.lookup f8 = some ⟨oc8, od8, .func (PySem.W.fnOf "is_cell" "is_cell" (defArgs s_is_cell) (defBody s_is_cell) (defScope s_is_cell) .none kV8 dc8 pm8 an8 cd8 ct8), sl8⟩) (c8 : PySem.W.codeIn K cd8 "is_cell" = true) (k8 : PySem.W.keepIn K (.ref f8) = true)
    (a9 : PySem.W.nsIn K mainGlobals "cell_edges" = some (some (.ref f9))) (l9 : K.lookup f9 = some ⟨oc9, od9, .func (PySem.W.fnOf "cell_edges" "cell_edges" (defArgs s_cell_edges) (defBody s_cell_edges) (defScope s_cell_edges) .none kV9 dc9 pm9 an9 cd9 ct9), sl9⟩) (c9 : PySem.W.codeIn K cd9 "cell_edges" = true) (k9 : PySem.W.keepIn K (.ref f9) = true)
    (a10 : PySem.W.nsIn K mainGlobals "whole" = some (some (.ref f10))) (l10 : K.lookup f10 = some ⟨oc10, od10, .func (PySem.W.fnOf "whole" "whole" (defArgs s_whole) (defBody s_whole) (defScope s_whole) .none kV10 dc10 pm10 an10 cd10 ct10), sl10⟩) (c10 : PySem.W.codeIn K cd10 "whole" = true) (k10 : PySem.W.keepIn K (.ref f10) = true)
    (a11 : PySem.W.nsIn K mainGlobals "sloped" = some (some (.ref f11))) (l11 : K.lookup f11 = some ⟨oc11, od11, .func (PySem.W.fnOf "sloped" "sloped" (defArgs s_sloped) (defBody s_sloped) (defScope s_sloped) .none kV11 dc11 pm11 an11 cd11 ct11), sl11⟩) (c11 : PySem.W.codeIn K cd11 "sloped" = true) (k11 : PySem.W.keepIn K (.ref f11) = true)
    (a12 : PySem.W.nsIn K mainGlobals "ends_of" = some (some (.ref f12))) (l12 : K.lookup f12 = some ⟨oc12, od12, .func (PySem.W.fnOf "ends_of" "ends_of" (defArgs s_ends_of) (defBody s_ends_of) (defScope s_ends_of) .none kV12 dc12 pm12 an12 cd12 ct12), sl12⟩) (c12 : PySem.W.codeIn K cd12 "ends_of" = true) (k12 : PySem.W.keepIn K (.ref f12) = true)
    (a13 : PySem.W.nsIn K mainGlobals "goes_through" = some (some (.ref f13))) (l13 : K.lookup f13 = some ⟨oc13, od13, .func (PySem.W.fnOf "goes_through" "goes_through" (defArgs s_goes_through) (defBody s_goes_through) (defScope s_goes_through) .none kV13 dc13 pm13 an13 cd13 ct13), sl13⟩) (c13 : PySem.W.codeIn K cd13 "goes_through" = true) (k13 : PySem.W.keepIn K (.ref f13) = true)
    (a14 : PySem.W.nsIn K mainGlobals "meeting" = some (some (.ref f14))) (l14 : K.lookup f14 = some ⟨oc14, od14, .func (PySem.W.fnOf "meeting" "meeting" (defArgs s_meeting) (defBody s_meeting) (defScope s_meeting) .none kV14 dc14 pm14 an14 cd14 ct14), sl14⟩) (c14 : PySem.W.codeIn K cd14 "meeting" = true) (k14 : PySem.W.keepIn K (.ref f14) = true)
    (a15 : PySem.W.nsIn K mainGlobals "crossing_height" = some (some (.ref f15))) (l15 : K.lookup f15 = some ⟨oc15, od15, .func (PySem.W.fnOf "crossing_height" "crossing_height" (defArgs s_crossing_height) (defBody s_crossing_height) (defScope s_crossing_height) .none kV15 dc15 pm15 an15 cd15 ct15), sl15⟩) (c15 : PySem.W.codeIn K cd15 "crossing_height" = true) (k15 : PySem.W.keepIn K (.ref f15) = true)
    (a16 : PySem.W.nsIn K mainGlobals "rising" = some (some (.ref f16))) (l16 : K.lookup f16 = some ⟨oc16, od16, .func (PySem.W.fnOf "rising" "rising" (defArgs s_rising) (defBody s_rising) (defScope s_rising) .none kV16 dc16 pm16 an16 (.ref cc16) ct16), sl16⟩) (c16 : PySem.W.codeIn K (.ref cc16) "rising" = true) (k16 : PySem.W.keepIn K (.ref f16) = true)
    (lk16 : K.lookup cc16 = some ⟨ccl16, cod16, .fields cvs16, csl16⟩) (lp16 : (cvs16[11]? : Option Value) = some (.ref cP16)) (lh16 : PySem.W.codeHdIn K cc16 cP16 = true) (lt16 : h.get? cP16 = some { cls := .none, data := .fields #[] }) (ln16 : K.lookup cP16 = none)
    (a17 : PySem.W.nsIn K mainGlobals "is_across" = some (some (.ref f17))) (l17 : K.lookup f17 = some ⟨oc17, od17, .func (PySem.W.fnOf "is_across" "is_across" (defArgs s_is_across) (defBody s_is_across) (defScope s_is_across) .none kV17 dc17 pm17 an17 cd17 ct17), sl17⟩) (c17 : PySem.W.codeIn K cd17 "is_across" = true) (k17 : PySem.W.keepIn K (.ref f17) = true)
    {dT18 : Addr} {do18 : Option Addr} {dn18 : Nat} {ds18 : Array (Option Value)}
    (a18 : PySem.W.nsIn K mainGlobals "heights_of" = some (some (.ref f18))) (l18 : K.lookup f18 = some ⟨oc18, od18, .func (PySem.W.fnOf "heights_of" "heights_of" (defArgs s_heights_of) (defBody s_heights_of) (defScope s_heights_of) (.ref dT18) kV18 dc18 pm18 an18 cd18 ct18), sl18⟩) (c18 : PySem.W.codeIn K cd18 "heights_of" = true) (k18 : PySem.W.keepIn K (.ref f18) = true)
    (dl18 : K.lookup dT18 = some ⟨.type "tuple", do18, .seq #[Value.none] dn18, ds18⟩)
    (a19 : PySem.W.nsIn K mainGlobals "heights_in" = some (some (.ref f19))) (l19 : K.lookup f19 = some ⟨oc19, od19, .func (PySem.W.fnOf "heights_in" "heights_in" (defArgs s_heights_in) (defBody s_heights_in) (defScope s_heights_in) .none kV19 dc19 pm19 an19 cd19 ct19), sl19⟩) (c19 : PySem.W.codeIn K cd19 "heights_in" = true) (k19 : PySem.W.keepIn K (.ref f19) = true)
    (a20 : PySem.W.nsIn K mainGlobals "_law_tape" = some (some (.ref f20))) (l20 : K.lookup f20 = some ⟨oc20, od20, .func (PySem.W.fnOf "_law_tape" "_law_tape" (defArgs s__law_tape) (defBody s__law_tape) (defScope s__law_tape) .none kV20 dc20 pm20 an20 cd20 ct20), sl20⟩) (c20 : PySem.W.codeIn K cd20 "_law_tape" = true) (k20 : PySem.W.keepIn K (.ref f20) = true)
    (a21 : PySem.W.nsIn K mainGlobals "_law_draw" = some (some (.ref f21))) (l21 : K.lookup f21 = some ⟨oc21, od21, .func (PySem.W.fnOf "_law_draw" "_law_draw" (defArgs s__law_draw) (defBody s__law_draw) (defScope s__law_draw) .none kV21 dc21 pm21 an21 cd21 ct21), sl21⟩) (c21 : PySem.W.codeIn K cd21 "_law_draw" = true) (k21 : PySem.W.keepIn K (.ref f21) = true)
    (a22 : PySem.W.nsIn K mainGlobals "_law_ratio" = some (some (.ref f22))) (l22 : K.lookup f22 = some ⟨oc22, od22, .func (PySem.W.fnOf "_law_ratio" "_law_ratio" (defArgs s__law_ratio) (defBody s__law_ratio) (defScope s__law_ratio) .none kV22 dc22 pm22 an22 cd22 ct22), sl22⟩) (c22 : PySem.W.codeIn K cd22 "_law_ratio" = true) (k22 : PySem.W.keepIn K (.ref f22) = true)
    (a23 : PySem.W.nsIn K mainGlobals "_law_over" = some (some (.ref f23))) (l23 : K.lookup f23 = some ⟨oc23, od23, .func (PySem.W.fnOf "_law_over" "_law_over" (defArgs s__law_over) (defBody s__law_over) (defScope s__law_over) .none kV23 dc23 pm23 an23 cd23 ct23), sl23⟩) (c23 : PySem.W.codeIn K cd23 "_law_over" = true) (k23 : PySem.W.keepIn K (.ref f23) = true)
    (a24 : PySem.W.nsIn K mainGlobals "_law_page" = some (some (.ref f24))) (l24 : K.lookup f24 = some ⟨oc24, od24, .func (PySem.W.fnOf "_law_page" "_law_page" (defArgs s__law_page) (defBody s__law_page) (defScope s__law_page) .none kV24 dc24 pm24 an24 cd24 ct24), sl24⟩) (c24 : PySem.W.codeIn K cd24 "_law_page" = true) (k24 : PySem.W.keepIn K (.ref f24) = true)
    (a25 : PySem.W.nsIn K mainGlobals "_law_coordinate" = some (some (.ref f25))) (l25 : K.lookup f25 = some ⟨oc25, od25, .func (PySem.W.fnOf "_law_coordinate" "_law_coordinate" (defArgs s__law_coordinate) (defBody s__law_coordinate) (defScope s__law_coordinate) .none kV25 dc25 pm25 an25 cd25 ct25), sl25⟩) (c25 : PySem.W.codeIn K cd25 "_law_coordinate" = true) (k25 : PySem.W.keepIn K (.ref f25) = true)
    (a26 : PySem.W.nsIn K mainGlobals "_law_ring" = some (some (.ref f26))) (l26 : K.lookup f26 = some ⟨oc26, od26, .func (PySem.W.fnOf "_law_ring" "_law_ring" (defArgs s__law_ring) (defBody s__law_ring) (defScope s__law_ring) .none kV26 dc26 pm26 an26 cd26 ct26), sl26⟩) (c26 : PySem.W.codeIn K cd26 "_law_ring" = true) (k26 : PySem.W.keepIn K (.ref f26) = true)
    (a27 : PySem.W.nsIn K mainGlobals "_law_path" = some (some (.ref f27))) (l27 : K.lookup f27 = some ⟨oc27, od27, .func (PySem.W.fnOf "_law_path" "_law_path" (defArgs s__law_path) (defBody s__law_path) (defScope s__law_path) .none kV27 dc27 pm27 an27 cd27 ct27), sl27⟩) (c27 : PySem.W.codeIn K cd27 "_law_path" = true) (k27 : PySem.W.keepIn K (.ref f27) = true)
    (a28 : PySem.W.nsIn K mainGlobals "_law_sides" = some (some (.ref f28))) (l28 : K.lookup f28 = some ⟨oc28, od28, .func (PySem.W.fnOf "_law_sides" "_law_sides" (defArgs s__law_sides) (defBody s__law_sides) (defScope s__law_sides) .none kV28 dc28 pm28 an28 cd28 ct28), sl28⟩) (c28 : PySem.W.codeIn K cd28 "_law_sides" = true) (k28 : PySem.W.keepIn K (.ref f28) = true)
    (a29 : PySem.W.nsIn K mainGlobals "_law_cells" = some (some (.ref f29))) (l29 : K.lookup f29 = some ⟨oc29, od29, .func (PySem.W.fnOf "_law_cells" "_law_cells" (defArgs s__law_cells) (defBody s__law_cells) (defScope s__law_cells) .none kV29 dc29 pm29 an29 cd29 ct29), sl29⟩) (c29 : PySem.W.codeIn K cd29 "_law_cells" = true) (k29 : PySem.W.keepIn K (.ref f29) = true)
    (a30 : PySem.W.nsIn K mainGlobals "_law_edges" = some (some (.ref f30))) (l30 : K.lookup f30 = some ⟨oc30, od30, .func (PySem.W.fnOf "_law_edges" "_law_edges" (defArgs s__law_edges) (defBody s__law_edges) (defScope s__law_edges) .none kV30 dc30 pm30 an30 cd30 ct30), sl30⟩) (c30 : PySem.W.codeIn K cd30 "_law_edges" = true) (k30 : PySem.W.keepIn K (.ref f30) = true)
    (a31 : PySem.W.nsIn K mainGlobals "_law_is_ratio" = some (some (.ref f31))) (l31 : K.lookup f31 = some ⟨oc31, od31, .func (PySem.W.fnOf "_law_is_ratio" "_law_is_ratio" (defArgs s__law_is_ratio) (defBody s__law_is_ratio) (defScope s__law_is_ratio) .none kV31 dc31 pm31 an31 cd31 ct31), sl31⟩) (c31 : PySem.W.codeIn K cd31 "_law_is_ratio" = true) (k31 : PySem.W.keepIn K (.ref f31) = true)
    (a32 : PySem.W.nsIn K mainGlobals "_law_x" = some (some (.ref f32))) (l32 : K.lookup f32 = some ⟨oc32, od32, .func (PySem.W.fnOf "_law_x" "_law_x" (defArgs s__law_x) (defBody s__law_x) (defScope s__law_x) .none kV32 dc32 pm32 an32 cd32 ct32), sl32⟩) (c32 : PySem.W.codeIn K cd32 "_law_x" = true) (k32 : PySem.W.keepIn K (.ref f32) = true)
    (a33 : PySem.W.nsIn K mainGlobals "_law_between_right" = some (some (.ref f33))) (l33 : K.lookup f33 = some ⟨oc33, od33, .func (PySem.W.fnOf "_law_between_right" "_law_between_right" (defArgs s__law_between_right) (defBody s__law_between_right) (defScope s__law_between_right) .none kV33 dc33 pm33 an33 cd33 ct33), sl33⟩) (c33 : PySem.W.codeIn K cd33 "_law_between_right" = true) (k33 : PySem.W.keepIn K (.ref f33) = true)
    (a34 : PySem.W.nsIn K mainGlobals "_law_right" = some (some (.ref f34))) (l34 : K.lookup f34 = some ⟨oc34, od34, .func (PySem.W.fnOf "_law_right" "_law_right" (defArgs s__law_right) (defBody s__law_right) (defScope s__law_right) .none kV34 dc34 pm34 an34 cd34 ct34), sl34⟩) (c34 : PySem.W.codeIn K cd34 "_law_right" = true) (k34 : PySem.W.keepIn K (.ref f34) = true)
    (a35 : PySem.W.nsIn K mainGlobals "law" = some (some (.ref f35))) (l35 : K.lookup f35 = some ⟨oc35, od35, .func (PySem.W.fnOf "law" "law" (defArgs s_law) (defBody s_law) (defScope s_law) .none kV35 dc35 pm35 an35 cd35 ct35), sl35⟩) (c35 : PySem.W.codeIn K cd35 "law" = true) (k35 : PySem.W.keepIn K (.ref f35) = true)
    (z_abs : PySem.W.nsIn K mainGlobals "abs" = some none)
    (z_bool : PySem.W.nsIn K mainGlobals "bool" = some none)
    (z_dict : PySem.W.nsIn K mainGlobals "dict" = some none)
    (z_enumerate : PySem.W.nsIn K mainGlobals "enumerate" = some none)
    (z_int : PySem.W.nsIn K mainGlobals "int" = some none)
    (z_isinstance : PySem.W.nsIn K mainGlobals "isinstance" = some none)
    (z_len : PySem.W.nsIn K mainGlobals "len" = some none)
    (z_list : PySem.W.nsIn K mainGlobals "list" = some none)
    (z_max : PySem.W.nsIn K mainGlobals "max" = some none)
    (z_min : PySem.W.nsIn K mainGlobals "min" = some none)
    (z_range : PySem.W.nsIn K mainGlobals "range" = some none)
    (z_repr : PySem.W.nsIn K mainGlobals "repr" = some none)
    (z_sorted : PySem.W.nsIn K mainGlobals "sorted" = some none)
    (z_tuple : PySem.W.nsIn K mainGlobals "tuple" = some none)
    (z_zip : PySem.W.nsIn K mainGlobals "zip" = some none)
    : LawT l w K 10 "script" mg fa h g_law := by
  have e := hfa.symm.trans (PySem.W.mg_of X G a35)
  cases e
  refine ⟨[(cP16, fun _ _ => lamQ "rising")], PySem.W.fnOf "law" "law" (defArgs s_law) (defBody s_law) (defScope s_law) .none kV35 dc35 pm35 an35 cd35 ct35, [(cc16, cP16)], ?_, ?_, ?_, ?_, fun s v => .of_eq rfl, fun base0 _ _ tbs => ?_⟩
  · exact fun p hp => by
        simp only [List.mem_cons, List.not_mem_nil, or_false] at hp
        rcases hp with rfl
        · exact lt16
  · exact fun p hp => by
        simp only [List.mem_cons, List.not_mem_nil, or_false] at hp
        rcases hp with rfl
        · exact ln16
  · exact fun p hp => by
        simp only [List.mem_cons, List.not_mem_nil, or_false] at hp
        rcases hp with rfl
        · exact PySem.W.codeHd_of_K X lh16
  · exact fun p hp => by
        simp only [List.mem_cons, List.not_mem_nil, or_false] at hp
        rcases hp with rfl
        · exact ⟨(cc16, cP16), (.head _), rfl⟩
  letI : Tbs := ⟨[(cP16, fun _ _ => lamQ "rising")]⟩
  have M_rising : Mk mg "rising" base0 cc16 := ⟨cP16, tbs (cc16, cP16) (.head _), (show (cP16, fun _ _ => lamQ "rising") ∈ ([(cP16, fun _ _ => lamQ "rising")] : List NdefX.NTab) from (.head _)), fun p hp e => by
        replace hp : p ∈ ([(cP16, fun _ _ => lamQ "rising")] : List NdefX.NTab) := hp
        simp only [List.mem_cons, List.not_mem_nil, or_false] at hp
        rcases hp with rfl
        · exact rfl⟩
  have B : Bi K mg := ⟨PySem.W.mg_none_of X G z_abs, PySem.W.mg_none_of X G z_bool, PySem.W.mg_none_of X G z_dict, PySem.W.mg_none_of X G z_enumerate, PySem.W.mg_none_of X G z_int, PySem.W.mg_none_of X G z_isinstance, PySem.W.mg_none_of X G z_len, PySem.W.mg_none_of X G z_list, PySem.W.mg_none_of X G z_max, PySem.W.mg_none_of X G z_min, PySem.W.mg_none_of X G z_range, PySem.W.mg_none_of X G z_repr, PySem.W.mg_none_of X G z_sorted, PySem.W.mg_none_of X G z_tuple, PySem.W.mg_none_of X G z_zip⟩
  have T0 : Tx K mg "common_divisor" s_common_divisor := ⟨⟨f0, _, PySem.W.mg_of X G a0, fun_mk (st := s_common_divisor) l0 c0 k0⟩⟩
  have T1 : Tx K mg "ratio" s_ratio := ⟨⟨f1, _, PySem.W.mg_of X G a1, fun_mk (st := s_ratio) l1 c1 k1⟩⟩
  have T2 : Tx K mg "added" s_added := ⟨⟨f2, _, PySem.W.mg_of X G a2, fun_mk (st := s_added) l2 c2 k2⟩⟩
  have T3 : Tx K mg "is_below" s_is_below := ⟨⟨f3, _, PySem.W.mg_of X G a3, fun_mk (st := s_is_below) l3 c3 k3⟩⟩
  have T4 : Tx K mg "ring_sides" s_ring_sides := ⟨⟨f4, _, PySem.W.mg_of X G a4, fun_mk (st := s_ring_sides) l4 c4 k4⟩⟩
  have T5 : Tx K mg "sides_of" s_sides_of := ⟨⟨f5, _, PySem.W.mg_of X G a5, fun_mk (st := s_sides_of) l5 c5 k5⟩⟩
  have T6 : Tx K mg "sign_of" s_sign_of := ⟨⟨f6, _, PySem.W.mg_of X G a6, fun_mk (st := s_sign_of) l6 c6 k6⟩⟩
  have T7 : Tx K mg "at_height" s_at_height := ⟨⟨f7, _, PySem.W.mg_of X G a7, fun_mk (st := s_at_height) l7 c7 k7⟩⟩
  have T8 : Tx K mg "is_cell" s_is_cell := ⟨⟨f8, _, PySem.W.mg_of X G a8, fun_mk (st := s_is_cell) l8 c8 k8⟩⟩
  have T9 : Tx K mg "cell_edges" s_cell_edges := ⟨⟨f9, _, PySem.W.mg_of X G a9, fun_mk (st := s_cell_edges) l9 c9 k9⟩⟩
  have T10 : Tx K mg "whole" s_whole := ⟨⟨f10, _, PySem.W.mg_of X G a10, fun_mk (st := s_whole) l10 c10 k10⟩⟩
  have T11 : Tx K mg "sloped" s_sloped := ⟨⟨f11, _, PySem.W.mg_of X G a11, fun_mk (st := s_sloped) l11 c11 k11⟩⟩
  have T12 : Tx K mg "ends_of" s_ends_of := ⟨⟨f12, _, PySem.W.mg_of X G a12, fun_mk (st := s_ends_of) l12 c12 k12⟩⟩
  have T13 : Tx K mg "goes_through" s_goes_through := ⟨⟨f13, _, PySem.W.mg_of X G a13, fun_mk (st := s_goes_through) l13 c13 k13⟩⟩
  have T14 : Tx K mg "meeting" s_meeting := ⟨⟨f14, _, PySem.W.mg_of X G a14, fun_mk (st := s_meeting) l14 c14 k14⟩⟩
  have T15 : Tx K mg "crossing_height" s_crossing_height := ⟨⟨f15, _, PySem.W.mg_of X G a15, fun_mk (st := s_crossing_height) l15 c15 k15⟩⟩
  have T16 : TxC K mg "rising" s_rising cc16 := ⟨⟨f16, _, PySem.W.mg_of X G a16, fun_mk (st := s_rising) l16 c16 k16, rfl⟩⟩
  have T17 : Tx K mg "is_across" s_is_across := ⟨⟨f17, _, PySem.W.mg_of X G a17, fun_mk (st := s_is_across) l17 c17 k17⟩⟩
  have T18 : TxD K mg "heights_of" "heights_of" s_heights_of [.non] := ⟨⟨f18, _, PySem.W.mg_of X G a18, ⟨⟨_, _, _, _, _, _, _, _, _, _, rfl, l18, c18, .inr ⟨List.cons_ne_nil _ _, dT18, _, [Value.none], dn18, rfl, dl18, rfl, (.cons rfl .nil)⟩, .inl rfl⟩, k18⟩⟩⟩
  have T19 : Tx K mg "heights_in" s_heights_in := ⟨⟨f19, _, PySem.W.mg_of X G a19, fun_mk (st := s_heights_in) l19 c19 k19⟩⟩
  have T20 : Tx K mg "_law_tape" s__law_tape := ⟨⟨f20, _, PySem.W.mg_of X G a20, fun_mk (st := s__law_tape) l20 c20 k20⟩⟩
  have T21 : Tx K mg "_law_draw" s__law_draw := ⟨⟨f21, _, PySem.W.mg_of X G a21, fun_mk (st := s__law_draw) l21 c21 k21⟩⟩
  have T22 : Tx K mg "_law_ratio" s__law_ratio := ⟨⟨f22, _, PySem.W.mg_of X G a22, fun_mk (st := s__law_ratio) l22 c22 k22⟩⟩
  have T23 : Tx K mg "_law_over" s__law_over := ⟨⟨f23, _, PySem.W.mg_of X G a23, fun_mk (st := s__law_over) l23 c23 k23⟩⟩
  have T24 : Tx K mg "_law_page" s__law_page := ⟨⟨f24, _, PySem.W.mg_of X G a24, fun_mk (st := s__law_page) l24 c24 k24⟩⟩
  have T25 : Tx K mg "_law_coordinate" s__law_coordinate := ⟨⟨f25, _, PySem.W.mg_of X G a25, fun_mk (st := s__law_coordinate) l25 c25 k25⟩⟩
  have T26 : Tx K mg "_law_ring" s__law_ring := ⟨⟨f26, _, PySem.W.mg_of X G a26, fun_mk (st := s__law_ring) l26 c26 k26⟩⟩
  have T27 : Tx K mg "_law_path" s__law_path := ⟨⟨f27, _, PySem.W.mg_of X G a27, fun_mk (st := s__law_path) l27 c27 k27⟩⟩
  have T28 : Tx K mg "_law_sides" s__law_sides := ⟨⟨f28, _, PySem.W.mg_of X G a28, fun_mk (st := s__law_sides) l28 c28 k28⟩⟩
  have T29 : Tx K mg "_law_cells" s__law_cells := ⟨⟨f29, _, PySem.W.mg_of X G a29, fun_mk (st := s__law_cells) l29 c29 k29⟩⟩
  have T30 : Tx K mg "_law_edges" s__law_edges := ⟨⟨f30, _, PySem.W.mg_of X G a30, fun_mk (st := s__law_edges) l30 c30 k30⟩⟩
  have T31 : Tx K mg "_law_is_ratio" s__law_is_ratio := ⟨⟨f31, _, PySem.W.mg_of X G a31, fun_mk (st := s__law_is_ratio) l31 c31 k31⟩⟩
  have T32 : Tx K mg "_law_x" s__law_x := ⟨⟨f32, _, PySem.W.mg_of X G a32, fun_mk (st := s__law_x) l32 c32 k32⟩⟩
  have T33 : Tx K mg "_law_between_right" s__law_between_right := ⟨⟨f33, _, PySem.W.mg_of X G a33, fun_mk (st := s__law_between_right) l33 c33 k33⟩⟩
  have T34 : Tx K mg "_law_right" s__law_right := ⟨⟨f34, _, PySem.W.mg_of X G a34, fun_mk (st := s__law_right) l34 c34 k34⟩⟩
  have F := fun_mk (st := s_law) l35 c35 k35
  have d_common_divisor : ∀ b, BE base0 b → Df l.prog w K mg b "common_divisor" ["one", "other"] 1 g_common_divisor := fun b hb => ok_common_divisor B T0 
  have d_ratio : ∀ b, BE base0 b → Df l.prog w K mg b "ratio" ["a", "b"] 3 g_ratio := fun b hb => ok_ratio B T1 (d_common_divisor b hb)
  have d_added : ∀ b, BE base0 b → Df l.prog w K mg b "added" ["one", "other"] 4 g_added := fun b hb => ok_added B T2 (d_ratio b hb)
  have d_is_below : ∀ b, BE base0 b → Df l.prog w K mg b "is_below" ["one", "other"] 1 g_is_below := fun b hb => ok_is_below B T3 
  have d_ring_sides : ∀ b, BE base0 b → Df l.prog w K mg b "ring_sides" ["ring"] 1 g_ring_sides := fun b hb => ok_ring_sides B T4 
  have d_sides_of : ∀ b, BE base0 b → Df l.prog w K mg b "sides_of" ["path"] 2 g_sides_of := fun b hb => ok_sides_of B T5 (d_ring_sides b hb)
  have d_sign_of : ∀ b, BE base0 b → Df l.prog w K mg b "sign_of" ["side"] 1 g_sign_of := fun b hb => ok_sign_of B T6 
  have d_at_height : ∀ b, BE base0 b → Df l.prog w K mg b "at_height" ["side", "height"] 5 g_at_height := fun b hb => ok_at_height B T7 (d_added b hb) (d_is_below b hb) (d_ratio b hb)
  have d_is_cell : ∀ b, BE base0 b → Df l.prog w K mg b "is_cell" ["page", "cell"] 1 g_is_cell := fun b hb => ok_is_cell B T8 
  have d_cell_edges : ∀ b, BE base0 b → Df l.prog w K mg b "cell_edges" ["page", "cell"] 3 g_cell_edges := fun b hb => ok_cell_edges B T9 (d_is_cell b hb)
  have d_whole : ∀ b, BE base0 b → Df l.prog w K mg b "whole" ["number"] 1 g_whole := fun b hb => ok_whole B T10 
  have d_sloped : ∀ b, BE base0 b → Df l.prog w K mg b "sloped" ["path"] 3 g_sloped := fun b hb => ok_sloped B T11 (d_sign_of b hb) (d_sides_of b hb)
  have d_ends_of : ∀ b, BE base0 b → Df l.prog w K mg b "ends_of" ["side"] 1 g_ends_of := fun b hb => ok_ends_of B T12 
  have d_goes_through : ∀ b, BE base0 b → Df l.prog w K mg b "goes_through" ["side", "low", "high"] 2 g_goes_through := fun b hb => ok_goes_through B T13 (d_ends_of b hb)
  have d_meeting : ∀ b, BE base0 b → Df l.prog w K mg b "meeting" ["side", "x"] 4 g_meeting := fun b hb => ok_meeting B T14 (d_ratio b hb)
  have d_crossing_height : ∀ b, BE base0 b → Df l.prog w K mg b "crossing_height" ["one", "other"] 4 g_crossing_height := fun b hb => ok_crossing_height B T15 (d_ratio b hb) (d_goes_through b hb)
  have d_rising : ∀ b, BE base0 b → Df l.prog w K mg b "rising" ["some"] 4 g_rising := fun b hb => ok_rising B (M_rising.be hb)  T16
  have d_is_across : ∀ b, BE base0 b → Df l.prog w K mg b "is_across" ["side", "height", "edges"] 6 g_is_across := fun b hb => ok_is_across B T17 (d_at_height b hb)
  have d_heights_of : ∀ b, BE base0 b → DfD l.prog w K mg b "heights_of" "heights_of" s_heights_of [.non] ["sides", "low", "high", "edges"] 7 g_heights_of := fun b hb => ok_heights_of B T18 (d_rising b hb) (d_crossing_height b hb) (d_whole b hb) (d_meeting b hb) (d_is_below b hb) (d_ends_of b hb) (d_is_across b hb)
  have d_heights_in : ∀ b, BE base0 b → Df l.prog w K mg b "heights_in" ["path", "page", "cell"] 8 g_heights_in := fun b hb => ok_heights_in B T19 (d_cell_edges b hb) (d_heights_of b hb) (d_sloped b hb)
  have d__law_tape : ∀ b, BE base0 b → Df l.prog w K mg b "_law_tape" ["script"] 1 g__law_tape := fun b hb => ok__law_tape B T20 
  have d__law_draw : ∀ b, BE base0 b → Df l.prog w K mg b "_law_draw" ["tape", "many"] 1 g__law_draw := fun b hb => ok__law_draw B T21 
  have d__law_ratio : ∀ b, BE base0 b → Df l.prog w K mg b "_law_ratio" ["a", "b"] 1 g__law_ratio := fun b hb => ok__law_ratio B T22 
  have d__law_over : ∀ b, BE base0 b → Df l.prog w K mg b "_law_over" ["one", "other"] 1 g__law_over := fun b hb => ok__law_over B T23 
  have d__law_page : ∀ b, BE base0 b → Df l.prog w K mg b "_law_page" ["tape", "most"] 2 g__law_page := fun b hb => ok__law_page B T24 (d__law_draw b hb)
  have d__law_coordinate : ∀ b, BE base0 b → Df l.prog w K mg b "_law_coordinate" ["tape", "many", "step"] 2 g__law_coordinate := fun b hb => ok__law_coordinate B T25 (d__law_draw b hb)
  have d__law_ring : ∀ b, BE base0 b → Df l.prog w K mg b "_law_ring" ["tape", "page", "most", "ahead"] 3 g__law_ring := fun b hb => ok__law_ring B T26 (d__law_draw b hb) (d__law_coordinate b hb)
  have d__law_path : ∀ b, BE base0 b → Df l.prog w K mg b "_law_path" ["tape", "page", "most"] 4 g__law_path := fun b hb => ok__law_path B T27 (d__law_ring b hb) (d__law_draw b hb)
  have d__law_sides : ∀ b, BE base0 b → Df l.prog w K mg b "_law_sides" ["path"] 1 g__law_sides := fun b hb => ok__law_sides B T28 
  have d__law_cells : ∀ b, BE base0 b → Df l.prog w K mg b "_law_cells" ["page"] 1 g__law_cells := fun b hb => ok__law_cells B T29 
  have d__law_edges : ∀ b, BE base0 b → Df l.prog w K mg b "_law_edges" ["page", "cell"] 1 g__law_edges := fun b hb => ok__law_edges B T30 
  have d__law_is_ratio : ∀ b, BE base0 b → Df l.prog w K mg b "_law_is_ratio" ["thing"] 2 g__law_is_ratio := fun b hb => ok__law_is_ratio B T31 (d__law_ratio b hb)
  have d__law_x : ∀ b, BE base0 b → Df l.prog w K mg b "_law_x" ["side", "y"] 2 g__law_x := fun b hb => ok__law_x B T32 (d__law_ratio b hb)
  have d__law_between_right : ∀ b, BE base0 b → Df l.prog w K mg b "_law_between_right" ["path", "edges", "low", "high"] 3 g__law_between_right := fun b hb => ok__law_between_right B T33 (d__law_sides b hb) (d__law_over b hb) (d__law_x b hb)
  have d__law_right : ∀ b, BE base0 b → Df l.prog w K mg b "_law_right" ["path", "page", "cell"] 9 g__law_right := fun b hb => ok__law_right B T34 (d_heights_in b hb) (d__law_edges b hb) (d__law_over b hb) (d__law_between_right b hb) (d__law_is_ratio b hb)
  exact ok_law B F (d__law_tape base0 .refl) (d__law_page base0 .refl) (d__law_path base0 .refl) (d__law_cells base0 .refl) (d__law_right base0 .refl) (d_heights_in base0 .refl) (d__law_draw base0 .refl)
end L2.DL
open PySem PySem.W PyProof.Rows
set_option maxRecDepth 100000 in
set_option maxHeartbeats 0 in
theorem PySem.Challenge.cw_inkcover_k37_heights_told_holds : PySem.Challenge.rw_inkcover_k37_heights_told.Holds := by
  w_on; o_law; k_head; (case hw => w_witness2)
  k_fill
  refine L2.DL.walkDT (l := PySem.Challenge.rw_inkcover_k37_heights_told) (k := 10) (x := "script") (g := L2.DL.g_law) rfl rfl ⟨rfl, by decide, by decide⟩ (fun w h Y => PySem.W.km_in_of Y) ?F (fun ns h _ => @L2.DL.law_holds ⟨[]⟩ ns h)
  case F =>
    intro w mg fa h Y KX G hmg
    have hT8 := PySem.W.km_tabs_of Y
    refine' L2.DL.all_mk KX G hmg ?a0 ?l0 ?c0 ?k0 ?a1 ?l1 ?c1 ?k1 ?a2 ?l2 ?c2 ?k2 ?a3 ?l3 ?c3 ?k3 ?a4 ?l4 ?c4 ?k4 ?a5 ?l5 ?c5 ?k5 ?a6 ?l6 ?c6 ?k6 ?a7 ?l7 ?c7 ?k7 ?a8 ?l8 ?c8 ?k8 ?a9 ?l9 ?c9 ?k9 ?a10 ?l10 ?c10 ?k10 ?a11 ?l11 ?c11 ?k11 ?a12 ?l12 ?c12 ?k12 ?a13 ?l13 ?c13 ?k13 ?a14 ?l14 ?c14 ?k14 ?a15 ?l15 ?c15 ?k15 ?a16 ?l16 ?c16 ?k16 ?lk16 ?lp16 ?lh16 ?lt16 ?ln16 ?a17 ?l17 ?c17 ?k17 ?a18 ?l18 ?c18 ?k18 ?dl18 ?a19 ?l19 ?c19 ?k19 ?a20 ?l20 ?c20 ?k20 ?a21 ?l21 ?c21 ?k21 ?a22 ?l22 ?c22 ?k22 ?a23 ?l23 ?c23 ?k23 ?a24 ?l24 ?c24 ?k24 ?a25 ?l25 ?c25 ?k25 ?a26 ?l26 ?c26 ?k26 ?a27 ?l27 ?c27 ?k27 ?a28 ?l28 ?c28 ?k28 ?a29 ?l29 ?c29 ?k29 ?a30 ?l30 ?c30 ?k30 ?a31 ?l31 ?c31 ?k31 ?a32 ?l32 ?c32 ?k32 ?a33 ?l33 ?c33 ?k33 ?a34 ?l34 ?c34 ?k34 ?a35 ?l35 ?c35 ?k35 ?z_abs ?z_bool ?z_dict ?z_enumerate ?z_int ?z_isinstance ?z_len ?z_list ?z_max ?z_min ?z_range ?z_repr ?z_sorted ?z_tuple ?z_zip
    (case a0 => k_is)
    (case l0 => k_is)
    (case c0 => k_is)
    (case k0 => k_is)
    (case a1 => k_is)
    (case l1 => k_is)
    (case c1 => k_is)
    (case k1 => k_is)
    (case a2 => k_is)
    (case l2 => k_is)
    (case c2 => k_is)
    (case k2 => k_is)
    (case a3 => k_is)
    (case l3 => k_is)
    (case c3 => k_is)
    (case k3 => k_is)
    (case a4 => k_is)
    (case l4 => k_is)
    (case c4 => k_is)
    (case k4 => k_is)
    (case a5 => k_is)
    (case l5 => k_is)
    (case c5 => k_is)
    (case k5 => k_is)
    (case a6 => k_is)
    (case l6 => k_is)
    (case c6 => k_is)
    (case k6 => k_is)
    (case a7 => k_is)
    (case l7 => k_is)
    (case c7 => k_is)
    (case k7 => k_is)
    (case a8 => k_is)
    (case l8 => k_is)
    (case c8 => k_is)
    (case k8 => k_is)
    (case a9 => k_is)
    (case l9 => k_is)
    (case c9 => k_is)
    (case k9 => k_is)
    (case a10 => k_is)
    (case l10 => k_is)
    (case c10 => k_is)
    (case k10 => k_is)
    (case a11 => k_is)
    (case l11 => k_is)
    (case c11 => k_is)
    (case k11 => k_is)
    (case a12 => k_is)
    (case l12 => k_is)
    (case c12 => k_is)
    (case k12 => k_is)
    (case a13 => k_is)
    (case l13 => k_is)
    (case c13 => k_is)
    (case k13 => k_is)
    (case a14 => k_is)
    (case l14 => k_is)
    (case c14 => k_is)
    (case k14 => k_is)
    (case a15 => k_is)
    (case l15 => k_is)
    (case c15 => k_is)
    (case k15 => k_is)
    (case a16 => k_is)
    (case l16 => k_is)
    (case c16 => k_is)
    (case k16 => k_is)
    (case lk16 => k_is)
    (case lp16 => exact rfl)
    (case lh16 => kernel_rfl)
    (case lt16 => exact hT8 _ (by k_mem))
    (case ln16 => kernel_rfl)
    (case a17 => k_is)
    (case l17 => k_is)
    (case c17 => k_is)
    (case k17 => k_is)
    (case a18 => k_is)
    (case l18 => k_is)
    (case c18 => k_is)
    (case k18 => k_is)
    (case dl18 => k_is)
    (case a19 => k_is)
    (case l19 => k_is)
    (case c19 => k_is)
    (case k19 => k_is)
    (case a20 => k_is)
    (case l20 => k_is)
    (case c20 => k_is)
    (case k20 => k_is)
    (case a21 => k_is)
    (case l21 => k_is)
    (case c21 => k_is)
    (case k21 => k_is)
    (case a22 => k_is)
    (case l22 => k_is)
    (case c22 => k_is)
    (case k22 => k_is)
    (case a23 => k_is)
    (case l23 => k_is)
    (case c23 => k_is)
    (case k23 => k_is)
    (case a24 => k_is)
    (case l24 => k_is)
    (case c24 => k_is)
    (case k24 => k_is)
    (case a25 => k_is)
    (case l25 => k_is)
    (case c25 => k_is)
    (case k25 => k_is)
    (case a26 => k_is)
    (case l26 => k_is)
    (case c26 => k_is)
    (case k26 => k_is)
    (case a27 => k_is)
    (case l27 => k_is)
    (case c27 => k_is)
    (case k27 => k_is)
    (case a28 => k_is)
    (case l28 => k_is)
    (case c28 => k_is)
    (case k28 => k_is)
    (case a29 => k_is)
    (case l29 => k_is)
    (case c29 => k_is)
    (case k29 => k_is)
    (case a30 => k_is)
    (case l30 => k_is)
    (case c30 => k_is)
    (case k30 => k_is)
    (case a31 => k_is)
    (case l31 => k_is)
    (case c31 => k_is)
    (case k31 => k_is)
    (case a32 => k_is)
    (case l32 => k_is)
    (case c32 => k_is)
    (case k32 => k_is)
    (case a33 => k_is)
    (case l33 => k_is)
    (case c33 => k_is)
    (case k33 => k_is)
    (case a34 => k_is)
    (case l34 => k_is)
    (case c34 => k_is)
    (case k34 => k_is)
    (case a35 => k_is)
    (case l35 => k_is)
    (case c35 => k_is)
    (case k35 => k_is)
    (case z_abs => k_is)
    (case z_bool => k_is)
    (case z_dict => k_is)
    (case z_enumerate => k_is)
    (case z_int => k_is)
    (case z_isinstance => k_is)
    (case z_len => k_is)
    (case z_list => k_is)
    (case z_max => k_is)
    (case z_min => k_is)
    (case z_range => k_is)
    (case z_repr => k_is)
    (case z_sorted => k_is)
    (case z_tuple => k_is)
    (case z_zip => k_is)
