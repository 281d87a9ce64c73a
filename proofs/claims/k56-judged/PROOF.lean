import PyProof.Rows.All
import Wide.All
import OpenK.AllK
import Wide.FinOn
import HandS.ForMost
import HandS.ForExc
import HandS.Wide
import HandS.TupAny
import HandS.TupLe
import HandS.CallSlots
import HandS.Flow
import HandS.NoneIn
import HandS.RaiseMore
import HandS.Zip
import HandS.IsInst
import HandS.Style
import HandS.FStr
import HandS.SetFor
import HandS.SortInts
import HandS.Deep
import HandS.TupMul
import HandS.Exc
import HandS.ExcInit
import HandS.ExcIs
import KE.KExcInit
import PyProof.ExcBaseAll.LookupError
import PyProof.ExcBaseAll.ZeroDivisionError
import PyProof.ExcBaseAll.ValueError
import KE.GoesMore
import HandS.EndBits
import HandS.ExcField
import KE.KExcIs
import HandS.Conv
import KE.DataMinMax
import PyProof.Claim2Refuses
import KE.KDictKeyed
import HandS.Dict
import HandS.Defaults
import KE.BitLaws
import HandS.Nested
import HandS.TupSets
import HandS.SortOrd
import KE.SortData
import KE.KTryMore
import HandS.SortOrd
import HandS.SortRule
import HandS.HotCalls
import PySem.Challenge.RW_inkcover_k56_hulls_judged
set_option Elab.async false
set_option linter.all false
set_option maxRecDepth 100000
set_option maxHeartbeats 4000000
/-! DLa: data-level values, stores, how they are borne by the abstract heap -/
namespace L2.DL
open PySem PySem.Spec PyProof.Rows

/-- the tables of code objects that the defs have in which functions are made -/
class Tbs where
  T : List NdefX.NTab
/-- a function that an expression made: its words, the cells that it captured, its code object -/
structure LFn where
  qual : Str
  params : Arguments
  body : Expr
  scope : Scope
  cl : List (Str × Addr)
  c : Addr
/-- the object at f is this function -/
def FnL (f : Addr) (F : LFn) : HO := .ext fun h => ∃ (pm ctv : Value), h.get? f = some (PySem.W.kla_obj "<lambda>" F.qual F.params F.body F.scope F.cl pm F.c ctv)
/-- a value: tuples and lists that nobody changes by their items; what may change by its address -/
inductive D where
  | non | bl (b : Bool) | int (i : Int) | str (x : Str) | ty (n : String) | ref (a : Addr) | tup (ds : List D) | lst (ds : List D)
  /-- the script -/
  | scr (ns : List Int)
  /-- the def of this global name -/
  | fn (x : Str)
  /-- a function that was made, and what its captured names hold -/
  | clo (F : LFn) (ws : List V) (cs : List D)

/-- an object that may change -/
inductive MO where
  | lst (ds : List D)
  | dk (kvs : List (Key × D))
  /-- a dict whose keys are tuples of whole numbers, nested -/
  | dn (kvs : List (PySem.NestedKey × D))
  | ins (C dx : Addr) (fs : List (Str × D))
  /-- a caught exception's fields -/
  | xd (fs : List (Str × D))
abbrev MS := Addr → Option MO
def um (M : MS) (a : Addr) (o : MO) : MS := fun b => if b = a then some o else M b
theorem um_same {M : MS} {a : Addr} {o : MO} : um M a o a = some o := by unfold um; rw [if_pos rfl]
theorem um_ne {M : MS} {a b : Addr} {o : MO} (h : b ≠ a) : um M a o b = M b := by unfold um; rw [if_neg h]
theorem um_um {M : MS} {a : Addr} {o u : MO} : um (um M a o) a u = um M a u := by
  funext b; unfold um; split <;> rfl
theorem um_self {M : MS} {a : Addr} {o : MO} (h : M a = some o) : um M a o = M := by
  funext b; unfold um; split
  · next e => rw [e, h]
  · rfl
/-- N tells no more than M -/
def Le (N M : MS) : Prop := ∀ a o, N a = some o → M a = some o
theorem Le.refl (M : MS) : Le M M := fun _ _ h => h
theorem Le.trans {A B C : MS} (h : Le A B) (k : Le B C) : Le A C := fun a o e => k a o (h a o e)
theorem Le.um {M : MS} {a : Addr} {o : MO} (h : M a = none) : Le M (um M a o) := fun b u e => by
  rw [um_ne (fun z => by rw [z, h] at e; cases e)]; exact e

/-- a list of the module's own -/
def KL (K : PySem.W.Frag) (p : Addr) (vs : List V) : Prop :=
  ∃ (o : Obj) (its : Array Value) (n : Nat), K.lookup p = some o ∧ o.cls = .type "list" ∧ o.dict = none ∧ o.data = .seq its n ∧ its.size ≤ sizeLine ∧ Vals vs its.toList
/-- the written part; the lists that a comprehension is filling -/
structure ZK where
  K : PySem.W.Frag
  hid : Addr → Option (List V)
/-- an object that nobody changes -/
def Fo (K : ZK) (H : Hp) (M : MS) (p : Addr) (o : HO) : Prop := (M p = none ∧ K.hid p = none) ∧ H p = some o
inductive IsF : HO → Prop
  | lst (vs : List V) : IsF (.lst vs)
  | ext (φ : Heap → Prop) : IsF (.ext φ)
  | tbl (ps : Array Value) : IsF (.tbl ps)
abbrev Fz (K : ZK) (H : Hp) (M : MS) (p : Addr) (vs : List V) : Prop := Fo K H M p (.lst vs)
def FoExt (K : ZK) (H : Hp) (M : MS) (K' : ZK) (H' : Hp) (M' : MS) : Prop := ∀ p o, IsF o → Fo K H M p o → Fo K' H' M' p o
def Sc (K : PySem.W.Frag) (H : Hp) (p : Addr) (vs : List V) : Prop := (∃ ob, H p = some (.frz ob (.lst vs))) ∨ KL K p vs
theorem Fo.sq {K : ZK} {H : Hp} {M : MS} {p : Addr} {vs : List V} (h : Fz K H M p vs) : SqL K.K H p vs := .inl (.inl h.2)
theorem Sc.sq {K : PySem.W.Frag} {H : Hp} {p : Addr} {vs : List V} (h : Sc K H p vs) : SqL K H p vs := by
  rcases h with h | h
  · exact .inl (.inr h)
  · exact .inr h
theorem Fo.le {K : ZK} {H : Hp} {M N : MS} {p : Addr} {o : HO} (h : Fo K H M p o) (l : Le N M) : Fo K H N p o := by
  refine ⟨⟨?_, h.1.2⟩, h.2⟩
  cases q : N p with
  | none => rfl
  | some u => have z := h.1.1; rw [l p u q] at z; cases z

mutual
inductive Rel (K : ZK) (H : Hp) (M : MS) : V → D → Prop
  | non : Rel K H M .non .non
  | bl (b : Bool) : Rel K H M (.bl b) (.bl b)
  | int (i : Int) : Rel K H M (.int i) (.int i)
  | str (x : Str) : Rel K H M (.str x) (.str x)
  | ty (n : String) : Rel K H M (.ty n) (.ty n)
  | ref (a : Addr) : Rel K H M (.ref a) (.ref a)
  | tup {p : Addr} {vs : List V} {ds : List D} : SqT K.K H p vs → RelA K H M vs ds → Rel K H M (.ref p) (.tup ds)
  | lst {p : Addr} {vs : List V} {ds : List D} : Fz K H M p vs → RelA K H M vs ds → Rel K H M (.ref p) (.lst ds)
  | scr {p : Addr} {ns : List Int} : Sc K.K H p (ns.map V.int) → Rel K H M (.ref p) (.scr ns)
  | fn {p : Addr} {x : Str} : PySem.W.nsIn K.K mainGlobals x = some (some (.ref p)) → Rel K H M (.ref p) (.fn x)
  | clo {p : Addr} {F : LFn} {ws : List V} {cs : List D} : Fo K H M p (FnL p F) → Fo K H M F.c (LamX.CodeO F.c F.qual) → RelA K H M ws cs → Rel K H M (.ref p) (.clo F ws cs)
inductive RelA (K : ZK) (H : Hp) (M : MS) : List V → List D → Prop
  | nil : RelA K H M [] []
  | cons {v : V} {vs : List V} {d : D} {ds : List D} : Rel K H M v d → RelA K H M vs ds → RelA K H M (v :: vs) (d :: ds)
end

section
variable {K K' : ZK} {H H' H1 H2 : Hp} {M M' M1 M2 : MS}
mutual
theorem Rel.mono (hN : K'.K = K.K) (hT : ∀ p xs, SqT K.K H p xs → SqT K'.K H' p xs) (hF : ∀ p o, IsF o → (∀ ps, o ≠ .tbl ps) → Fo K H M p o → Fo K' H' M' p o) (hS : ∀ p xs, Sc K.K H p xs → Sc K'.K H' p xs) : ∀ (d : D) (v : V), Rel K H M v d → Rel K' H' M' v d
  | .non, _, h => by cases h; exact .non
  | .bl b, _, h => by cases h; exact .bl b
  | .int b, _, h => by cases h; exact .int b
  | .str b, _, h => by cases h; exact .str b
  | .ty b, _, h => by cases h; exact .ty b
  | .ref b, _, h => by cases h; exact .ref b
  | .tup ds, _, h => by
    cases h with
    | tup a b => exact .tup (hT _ _ a) (Rel.monoA hN hT hF hS ds _ b)
  | .lst ds, _, h => by
    cases h with
    | lst a b => exact .lst (hF _ _ (.lst _) (fun _ z => nomatch z) a) (Rel.monoA hN hT hF hS ds _ b)
  | .scr ns, _, h => by
    cases h with
    | scr a => exact .scr (hS _ _ a)
  | .fn x, _, h => by
    cases h with
    | fn a => exact .fn (by rw [hN]; exact a)
  | .clo F ws cs, _, h => by
    cases h with
    | clo a c b => exact .clo (hF _ _ (.ext _) (fun _ z => nomatch z) a) (hF _ _ (.ext _) (fun _ z => nomatch z) c) (Rel.monoA hN hT hF hS cs _ b)
theorem Rel.monoA (hN : K'.K = K.K) (hT : ∀ p xs, SqT K.K H p xs → SqT K'.K H' p xs) (hF : ∀ p o, IsF o → (∀ ps, o ≠ .tbl ps) → Fo K H M p o → Fo K' H' M' p o) (hS : ∀ p xs, Sc K.K H p xs → Sc K'.K H' p xs) : ∀ (ds : List D) (vs : List V), RelA K H M vs ds → RelA K' H' M' vs ds
  | [], _, h => by cases h; exact .nil
  | d :: ds, _, h => by
    cases h with
    | cons a b => exact .cons (Rel.mono hN hT hF hS d _ a) (Rel.monoA hN hT hF hS ds _ b)
end

/-- whatever was borne is borne -/
def Ext (K : ZK) (H : Hp) (M : MS) (H' : Hp) (M' : MS) : Prop := ∀ v d, Rel K H M v d → Rel K H' M' v d
theorem Ext.refl : Ext K H M H M := fun _ _ h => h
theorem Ext.trans (a : Ext K H M H1 M1) (b : Ext K H1 M1 H2 M2) : Ext K H M H2 M2 := fun v d h => b v d (a v d h)
theorem Ext.of (hT : ∀ p xs, SqT K.K H p xs → SqT K.K H' p xs) (hF : FoExt K H M K H' M') (hS : ∀ p xs, Sc K.K H p xs → Sc K.K H' p xs) : Ext K H M H' M' := fun v d h => Rel.mono rfl hT (fun p o i _ s => hF p o i s) hS d v h
theorem Ext.all (e : Ext K H M H' M') : ∀ {ds : List D} {vs : List V}, RelA K H M vs ds → RelA K H' M' vs ds
  | _, _, .nil => .nil
  | _, _, .cons a b => .cons (e _ _ a) (Ext.all e b)
/-- .. by another view of what is hidden -/
def ExtX (K : ZK) (H : Hp) (M : MS) (K' : ZK) (H' : Hp) (M' : MS) : Prop := ∀ v d, Rel K H M v d → Rel K' H' M' v d
theorem ExtX.of (hT : ∀ p xs, SqT K.K H p xs → SqT K'.K H' p xs) (hF : FoExt K H M K' H' M') (hS : ∀ p xs, Sc K.K H p xs → Sc K'.K H' p xs) (hN : K'.K = K.K := by rfl) : ExtX K H M K' H' M' := fun v d h => Rel.mono hN hT (fun p o i _ s => hF p o i s) hS d v h
theorem ExtX.all (e : ExtX K H M K' H' M') : ∀ {ds : List D} {vs : List V}, RelA K H M vs ds → RelA K' H' M' vs ds
  | _, _, .nil => .nil
  | _, _, .cons a b => .cons (e _ _ a) (ExtX.all e b)
theorem Ext.x (e : Ext K H M H' M') : ExtX K H M K H' M' := e
theorem ExtX.trans {K2 : ZK} (a : ExtX K H M K' H1 M1) (b : ExtX K' H1 M1 K2 H2 M2) : ExtX K H M K2 H2 M2 := fun v d h => b v d (a v d h)
theorem Ext.le (l : Le M' M) : Ext K H M H M' := Ext.of (fun _ _ h => h) (fun _ _ _ h => h.le l) fun _ _ h => h

theorem RelA.length : ∀ {vs : List V} {ds : List D}, RelA K H M vs ds → vs.length = ds.length
  | _, _, .nil => rfl
  | _, _, .cons _ t => by rw [List.length_cons, List.length_cons, RelA.length t]
theorem RelA.get : ∀ {vs : List V} {ds : List D} {i : Nat} {d : D}, RelA K H M vs ds → ds[i]? = some d → ∃ v, vs[i]? = some v ∧ Rel K H M v d
  | _, _, _, _, .nil, e => by simp at e
  | _, _, 0, _, .cons r _, e => by simp at e; subst e; exact ⟨_, rfl, r⟩
  | _, _, i + 1, d, .cons _ t, e => by
    obtain ⟨u, h1, h2⟩ := RelA.get (i := i) (d := d) t (by simpa using e)
    exact ⟨u, by simpa using h1, h2⟩
theorem RelA.getV : ∀ {vs : List V} {ds : List D} {i : Nat} {v : V}, RelA K H M vs ds → vs[i]? = some v → ∃ d, ds[i]? = some d ∧ Rel K H M v d
  | _, _, _, _, .nil, e => by simp at e
  | _, _, 0, _, .cons r _, e => by simp at e; subst e; exact ⟨_, rfl, r⟩
  | _, _, i + 1, d, .cons _ t, e => by
    obtain ⟨u, h1, h2⟩ := RelA.getV (i := i) (v := d) t (by simpa using e)
    exact ⟨u, by simpa using h1, h2⟩
theorem RelA.append : ∀ {vs us : List V} {ds es : List D}, RelA K H M vs ds → RelA K H M us es → RelA K H M (vs ++ us) (ds ++ es)
  | _, _, _, _, .nil, s => s
  | _, _, _, _, .cons r t, s => .cons r (RelA.append t s)
theorem RelA.take : ∀ {vs : List V} {ds : List D} (n : Nat), RelA K H M vs ds → RelA K H M (vs.take n) (ds.take n)
  | _, _, 0, _ => .nil
  | _, _, _ + 1, .nil => .nil
  | _, _, n + 1, .cons r t => .cons r (RelA.take n t)
theorem RelA.drop : ∀ {vs : List V} {ds : List D} (n : Nat), RelA K H M vs ds → RelA K H M (vs.drop n) (ds.drop n)
  | _, _, 0, r => r
  | _, _, _ + 1, .nil => .nil
  | _, _, n + 1, .cons _ t => RelA.drop n t
theorem RelA.set {v : V} {d : D} (r : Rel K H M v d) : ∀ {vs : List V} {ds : List D} (i : Nat), RelA K H M vs ds → RelA K H M (vs.set i v) (ds.set i d)
  | _, _, _, .nil => .nil
  | _, _, 0, .cons _ t => .cons r t
  | _, _, i + 1, .cons q t => .cons q (RelA.set r i t)
theorem RelA.ints : ∀ {vs : List V} {ns : List Int}, RelA K H M vs (ns.map D.int) → vs = ns.map V.int
  | _, [], h => by cases h; rfl
  | _, n :: ns, h => by
    cases h with
    | cons a b => cases a; rw [RelA.ints b]; rfl
theorem relA_ints : ∀ {ns : List Int}, RelA K H M (ns.map V.int) (ns.map D.int)
  | [] => .nil
  | n :: ns => .cons (.int n) relA_ints
theorem RelA.bls : ∀ {vs : List V} {ns : List Bool}, RelA K H M vs (ns.map D.bl) → vs = ns.map V.bl
  | _, [], h => by cases h; rfl
  | _, n :: ns, h => by
    cases h with
    | cons a b => cases a; rw [RelA.bls b]; rfl

/-- pairs by keys -/
inductive RelK {κ : Type} (K : ZK) (H : Hp) (M : MS) : List (κ × V) → List (κ × D) → Prop
  | nil : RelK K H M [] []
  | cons {k : κ} {v : V} {d : D} {vs : List (κ × V)} {ds : List (κ × D)} : Rel K H M v d → RelK K H M vs ds → RelK K H M ((k, v) :: vs) ((k, d) :: ds)
theorem Ext.keys {κ : Type} (e : Ext K H M H' M') : ∀ {ds : List (κ × D)} {vs : List (κ × V)}, RelK K H M vs ds → RelK K H' M' vs ds
  | _, _, .nil => .nil
  | _, _, .cons a b => .cons (e _ _ a) (Ext.keys e b)

theorem ExtX.keys {κ : Type} (e : ExtX K H M K' H' M') : ∀ {ds : List (κ × D)} {vs : List (κ × V)}, RelK K H M vs ds → RelK K' H' M' vs ds
  | _, _, .nil => .nil
  | _, _, .cons a b => .cons (e _ _ a) (ExtX.keys e b)
/-! keys that are tuples of whole numbers -/
mutual
def nkN : PySem.NestedKey → Bool
  | .none => true
  | .num _ => true
  | .text _ => false
  | .tup ks => nkNs ks
def nkNs : List PySem.NestedKey → Bool
  | [] => true
  | k :: ks => nkN k && nkNs ks
end
mutual
/-- the hash, whatever the world -/
def hashN : PySem.NestedKey → Int
  | .none => reduceHash 0xFCA86420
  | .num i => hashInt i
  | .text _ => 0
  | .tup ks => reduceHash (Builtin.Tuple.tupleHashOf (hashNs ks))
def hashNs : List PySem.NestedKey → List Int
  | [] => []
  | k :: ks => hashN k :: hashNs ks
end
mutual
theorem hash_N (w : World) : ∀ k : PySem.NestedKey, nkN k = true → k.hash w = hashN k
  | .none, _ => by rw [PySem.NestedKey.hash, hashN]
  | .num i, _ => by rw [PySem.NestedKey.hash, hashN]
  | .text _, h => by cases h
  | .tup ks, h => by rw [PySem.NestedKey.hash, hashN, hash_Ns w ks h]
theorem hash_Ns (w : World) : ∀ ks : List PySem.NestedKey, nkNs ks = true → PySem.NestedKey.hashes w ks = hashNs ks
  | [], _ => by rw [PySem.NestedKey.hashes, hashNs]
  | k :: ks, h => by
    have h' : (nkN k && nkNs ks) = true := h
    rw [Bool.and_eq_true] at h'
    rw [PySem.NestedKey.hashes, hashNs, hash_N w k h'.1, hash_Ns w ks h'.2]
end
mutual
/-- the key as data -/
def kD : PySem.NestedKey → D
  | .none => .non
  | .num i => .int i
  | .text x => .str x
  | .tup ks => .tup (kDs ks)
def kDs : List PySem.NestedKey → List D
  | [] => []
  | k :: ks => kD k :: kDs ks
end
/-- at a stands a dict with these entries -/
def dnF (a : Addr) (xs : List (PySem.NestedKey × Addr × Value)) (h : Heap) : Prop :=
  (a == sysModules) = false ∧ xs.length ≤ sizeLine ∧ ∃ o es ep, h.get? a = some o ∧ o.ExactDict ∧ o.data = .dict es ep ∧ es.toList = xs.map (fun x => (⟨hashN x.1, .ref x.2.1, x.2.2⟩ : DictEntry)) ∧ (xs.map (·.1)).Nodup
def RelO (K : ZK) (H : Hp) (M : MS) (a : Addr) : MO → Prop
  | .lst ds => ∃ vs, H a = some (.lst vs) ∧ RelA K H M vs ds
  | .dk kvs => ∃ ws, H a = some (.dK ws) ∧ RelK K H M ws kvs
  | .dn kvs => ∃ (xs : List (PySem.NestedKey × Addr × Value)) (ws : List (PySem.NestedKey × V)), H a = some (.ext (dnF a xs)) ∧ Paired (fun p q => p.1 = q.1 ∧ RelV p.2 q.2.2) ws xs ∧
      (∀ q ∈ xs, (nkN q.1 = true ∧ q.1.depth ≤ 8) ∧ Rel K H M (.ref q.2.1) (kD q.1)) ∧ RelK K H M ws kvs
  | .ins C dx fs => ∃ gs, H a = some (.ins C dx gs) ∧ RelK K H M gs fs
  | .xd fs => ∃ gs, H a = some (.xd gs) ∧ RelK K H M gs fs
/-- the tables: each code object that they tell bears the name that its place has -/
def TabM [Tbs] (K : ZK) (H : Hp) (M : MS) : Prop := ∀ p ∈ Tbs.T, ∃ ps : Array Value, Fo K H M p.1 (.tbl ps) ∧ TriplesOk ps.toList ∧ ∀ (pos : Pos) (cv : Value), codeAmong pos ps.toList = some cv → ∃ c, cv = .ref c ∧ Fo K H M c (LamX.CodeO c (p.2 pos.line pos.col))
theorem TabM.mono [Tbs] {K K' : ZK} {H H' : Hp} {M M' : MS} (t : TabM K H M) (hF : FoExt K H M K' H' M') : TabM K' H' M' := fun p hp => by
  obtain ⟨ps, h1, h2, h3⟩ := t p hp
  refine ⟨ps, hF _ _ (.tbl _) h1, h2, fun pos cv hc => ?_⟩
  obtain ⟨c, e1, e2⟩ := h3 pos cv hc
  exact ⟨c, e1, hF _ _ (.ext _) e2⟩
variable [Tbs]
structure RelM (K : ZK) (H : Hp) (M : MS) : Prop where
  at' : ∀ a mo, M a = some mo → RelO K H M a mo
  hid : ∀ a vs, K.hid a = some vs → M a = none ∧ H a = some (.lst vs)
  tab : TabM K H M
theorem RelO.some {a : Addr} {mo : MO} (h : RelO K H M a mo) : ∃ o, H a = some o ∧ (∀ ob u, o ≠ .frz ob u) ∧ ∀ xs, o ≠ .tup xs := by
  cases mo with
  | lst ds => obtain ⟨vs, e, _⟩ := h; exact ⟨_, e, (fun _ _ z => nomatch z), fun _ z => nomatch z⟩
  | dk ds => obtain ⟨vs, e, _⟩ := h; exact ⟨_, e, (fun _ _ z => nomatch z), fun _ z => nomatch z⟩
  | dn ds => obtain ⟨_, vs, e, _⟩ := h; exact ⟨_, e, (fun _ _ z => nomatch z), fun _ z => nomatch z⟩
  | ins C dx fs => obtain ⟨vs, e, _⟩ := h; exact ⟨_, e, (fun _ _ z => nomatch z), fun _ z => nomatch z⟩
  | xd fs => obtain ⟨vs, e, _⟩ := h; exact ⟨_, e, (fun _ _ z => nomatch z), fun _ z => nomatch z⟩
theorem RelO.ext {a : Addr} {mo : MO} (h : RelO K H M a mo) (e : Ext K H M H' M') (k : H' a = H a) : RelO K H' M' a mo := by
  cases mo with
  | lst ds => obtain ⟨vs, q, r⟩ := h; exact ⟨vs, k.trans q, e.all r⟩
  | dk ds => obtain ⟨vs, q, r⟩ := h; exact ⟨vs, k.trans q, e.keys r⟩
  | dn ds => obtain ⟨xs, vs, q, r1, r2, r⟩ := h; exact ⟨xs, vs, k.trans q, r1, fun q hq => ⟨(r2 q hq).1, e _ _ (r2 q hq).2⟩, e.keys r⟩
  | ins C dx fs => obtain ⟨vs, q, r⟩ := h; exact ⟨vs, k.trans q, e.keys r⟩
  | xd fs => obtain ⟨vs, q, r⟩ := h; exact ⟨vs, k.trans q, e.keys r⟩
theorem RelO.extX {a : Addr} {mo : MO} (h : RelO K H M a mo) (e : ExtX K H M K' H' M') (k : H' a = H a) : RelO K' H' M' a mo := by
  cases mo with
  | lst ds => obtain ⟨vs, q, r⟩ := h; exact ⟨vs, k.trans q, e.all r⟩
  | dk ds => obtain ⟨vs, q, r⟩ := h; exact ⟨vs, k.trans q, e.keys r⟩
  | dn ds => obtain ⟨xs, vs, q, r1, r2, r⟩ := h; exact ⟨xs, vs, k.trans q, r1, fun q hq => ⟨(r2 q hq).1, e _ _ (r2 q hq).2⟩, e.keys r⟩
  | ins C dx fs => obtain ⟨vs, q, r⟩ := h; exact ⟨vs, k.trans q, e.keys r⟩
  | xd fs => obtain ⟨vs, q, r⟩ := h; exact ⟨vs, k.trans q, e.keys r⟩
theorem RelM.free (m : RelM K H M) {p : Addr} (h : H p = none) : M p = none := by
  cases q : M p with
  | none => rfl
  | some mo =>
    obtain ⟨o, e, _⟩ := (m.at' p mo q).some
    rw [h] at e; cases e
theorem RelM.le (m : RelM K H M) (l : Le M' M) : RelM K H M' := by
  refine ⟨fun a mo e => (m.at' a mo (l a mo e)).ext (Ext.le l) rfl, fun a vs e => ⟨?_, (m.hid a vs e).2⟩, m.tab.mono fun _ _ _ h => h.le l⟩
  cases q : M' a with
  | none => rfl
  | some u =>
    have z := l a u q
    rw [(m.hid a vs e).1] at z; cases z
theorem RelM.freeH (m : RelM K H M) {p : Addr} (h : H p = none) : K.hid p = none := by
  cases q : K.hid p with
  | none => rfl
  | some vs =>
    have z := (m.hid p vs q).2
    rw [h] at z; cases z

theorem sqT_upd {p q : Addr} {o : HO} {xs : List V} (h : SqT K.K H q xs) (n : H p = none ∨ ∃ u, H p = some u ∧ ∀ ys, u ≠ .tup ys ∧ ∀ ob, u ≠ .frz ob (.tup ys)) : SqT K.K (upd H p o) q xs := by
  rcases h with (h | ⟨ob, h⟩) | h
  · refine .inl (.inl ?_)
    rw [upd_ne]
    · exact h
    · rintro rfl
      rcases n with n | ⟨u, n, z⟩
      · rw [h] at n; cases n
      · rw [h] at n; cases n; exact (z xs).1 rfl
  · refine .inl (.inr ⟨ob, ?_⟩)
    rw [upd_ne]
    · exact h
    · rintro rfl
      rcases n with n | ⟨u, n, z⟩
      · rw [h] at n; cases n
      · rw [h] at n; cases n; exact (z xs).2 ob rfl
  · exact .inr h
/-- a new object that the store doesn't name -/
theorem sc_upd {p q : Addr} {o : HO} {xs : List V} (h : Sc K.K H q xs) (n : H p = none ∨ ∃ u, H p = some u ∧ ∀ ys ob, u ≠ .frz ob (.lst ys)) : Sc K.K (upd H p o) q xs := by
  rcases h with ⟨ob, h⟩ | h
  · refine .inl ⟨ob, ?_⟩
    rw [upd_ne]
    · exact h
    · rintro rfl
      rcases n with n | ⟨u, n, z⟩
      · rw [h] at n; cases n
      · rw [h] at n; cases n; exact z xs ob rfl
  · exact .inr h
theorem fo_new {p : Addr} {o : HO} (h : H p = none) : FoExt K H M K (upd H p o) M := fun q u _ s => ⟨s.1, by rw [upd_ne (ne_of_none s.2 h)]; exact s.2⟩
theorem ext_new (m : RelM K H M) {p : Addr} {o : HO} (h : H p = none) : Ext K H M (upd H p o) M :=
  Ext.of (fun q xs s => sqT_upd s (.inl h)) (fo_new h) fun q xs s => sc_upd s (.inl h)
theorem relM_new (m : RelM K H M) {p : Addr} {o : HO} (h : H p = none) : RelM K (upd H p o) M := by
  refine ⟨fun a mo e => ?_, fun a vs e => ⟨(m.hid a vs e).1, ?_⟩, m.tab.mono (fo_new h)⟩
  · obtain ⟨u, q, _⟩ := (m.at' a mo e).some
    exact (m.at' a mo e).ext (ext_new m h) (upd_ne (ne_of_none q h))
  · have q := (m.hid a vs e).2
    rw [upd_ne (ne_of_none q h)]
    exact q
/-- a new object that the store names -/
theorem fo_alloc {p : Addr} {o : HO} {mo : MO} (h : H p = none) : FoExt K H M K (upd H p o) (um M p mo) := fun q u _ s => ⟨⟨by rw [um_ne (ne_of_none s.2 h)]; exact s.1.1, s.1.2⟩, by rw [upd_ne (ne_of_none s.2 h)]; exact s.2⟩
theorem ext_alloc (m : RelM K H M) {p : Addr} {o : HO} {mo : MO} (h : H p = none) : Ext K H M (upd H p o) (um M p mo) :=
  Ext.of (fun q xs s => sqT_upd s (.inl h)) (fo_alloc h) fun q xs s => sc_upd s (.inl h)
theorem relM_alloc (m : RelM K H M) {p : Addr} {o : HO} {mo : MO} (h : H p = none) (r : RelO K (upd H p o) (um M p mo) p mo) : RelM K (upd H p o) (um M p mo) := by
  refine ⟨fun a u e => ?_, fun a vs e => ?_, m.tab.mono (fo_alloc h)⟩
  · by_cases ha : a = p
    · subst ha; rw [um_same] at e; cases e; exact r
    · rw [um_ne ha] at e
      exact (m.at' a u e).ext (ext_alloc m h) (upd_ne ha)
  · obtain ⟨q1, q2⟩ := m.hid a vs e
    have ne := ne_of_none q2 h
    exact ⟨by rw [um_ne ne]; exact q1, by rw [upd_ne ne]; exact q2⟩
/-- an object of the store is changed -/
theorem fo_write {p : Addr} {o : HO} {mo mu : MO} (h : M p = some mu) : FoExt K H M K (upd H p o) (um M p mo) := fun q u _ s => by
  have hq : q ≠ p := fun z => by have n := s.1.1; rw [z, h] at n; cases n
  exact ⟨⟨by rw [um_ne hq]; exact s.1.1, s.1.2⟩, by rw [upd_ne hq]; exact s.2⟩
theorem ext_write (m : RelM K H M) {p : Addr} {o : HO} {mo mu : MO} (h : M p = some mu) : Ext K H M (upd H p o) (um M p mo) := by
  obtain ⟨u, e, mt, nt⟩ := (m.at' p mu h).some
  exact Ext.of (fun q xs s => sqT_upd s (.inr ⟨u, e, fun ys => ⟨nt ys, fun ob z => mt ob _ z⟩⟩)) (fo_write h) fun q xs s => sc_upd s (.inr ⟨u, e, fun ys ob z => mt ob _ z⟩)
theorem relM_write (m : RelM K H M) {p : Addr} {o : HO} {mo mu : MO} (h : M p = some mu) (r : RelO K (upd H p o) (um M p mo) p mo) : RelM K (upd H p o) (um M p mo) := by
  refine ⟨fun a u e => ?_, fun a vs e => ?_, m.tab.mono (fo_write h)⟩
  · by_cases ha : a = p
    · subst ha; rw [um_same] at e; cases e; exact r
    · rw [um_ne ha] at e
      exact (m.at' a u e).ext (ext_write m h) (upd_ne ha)
  · obtain ⟨q1, q2⟩ := m.hid a vs e
    have ne : a ≠ p := fun z => by rw [z, h] at q1; cases q1
    exact ⟨by rw [um_ne ne]; exact q1, by rw [upd_ne ne]; exact q2⟩

/-! ### slots -/
abbrev Sl := List (Option D)
def RelS (K : ZK) (H : Hp) (M : MS) (σ : St) (ρ : Sl) : Prop := σ.length = ρ.length ∧ ∀ (i : Nat) (d : D), ρ[i]? = some (some d) → ∃ v, σ[i]? = some (some v) ∧ Rel K H M v d
theorem RelS.ext {σ : St} {ρ : Sl} (r : RelS K H M σ ρ) (e : Ext K H M H' M') : RelS K H' M' σ ρ := ⟨r.1, fun i d h => by
  obtain ⟨v, a, b⟩ := r.2 i d h
  exact ⟨v, a, e _ _ b⟩⟩
theorem RelS.extX {σ : St} {ρ : Sl} (r : RelS K H M σ ρ) (e : ExtX K H M K' H' M') : RelS K' H' M' σ ρ := ⟨r.1, fun i d h => by
  obtain ⟨v, a, b⟩ := r.2 i d h
  exact ⟨v, a, e _ _ b⟩⟩
theorem RelS.set {σ : St} {ρ : Sl} (r : RelS K H M σ ρ) {v : V} {d : D} (i : Nat) (h : Rel K H M v d) : RelS K H M (σ.set i (some v)) (ρ.set i (some d)) := by
  refine ⟨by rw [List.length_set, List.length_set]; exact r.1, fun j e he => ?_⟩
  by_cases hj : i = j
  · subst hj
    have hi : i < ρ.length := by
      have := (List.getElem?_eq_some_iff.mp he).1
      simpa using this
    rw [List.getElem?_set_self hi] at he
    cases he
    exact ⟨v, List.getElem?_set_self (by rw [r.1]; exact hi), h⟩
  · rw [List.getElem?_set_ne hj] at he
    rw [List.getElem?_set_ne hj]
    exact r.2 j e he
theorem RelS.clear {σ : St} {ρ : Sl} (r : RelS K H M σ ρ) (i : Nat) : RelS K H M (σ.set i none) (ρ.set i none) := by
  refine ⟨by rw [List.length_set, List.length_set]; exact r.1, fun j e he => ?_⟩
  by_cases hj : i = j
  · subst hj
    have hi : i < ρ.length := by
      have := (List.getElem?_eq_some_iff.mp he).1
      simpa using this
    rw [List.getElem?_set_self hi] at he
    cases he
  · rw [List.getElem?_set_ne hj] at he
    rw [List.getElem?_set_ne hj]
    exact r.2 j e he
def wipeD (ρ : Sl) : List Nat → Sl
  | [] => ρ
  | v :: vs => (wipeD ρ vs).set v none
theorem RelS.wipe {σ : St} {ρ : Sl} (r : RelS K H M σ ρ) : ∀ vs : List Nat, RelS K H M (L2.wipe σ vs) (wipeD ρ vs)
  | [] => r
  | v :: vs => (RelS.wipe r vs).clear v
def startD : List Str → List D → Sl
  | [], _ => []
  | _ :: N, d :: ds => some d :: startD N ds
  | _ :: N, [] => none :: startD N []
theorem startD_at : ∀ {N : List Str} {ds : List D} {i : Nat} {d : D}, (startD N ds)[i]? = some (some d) → ds[i]? = some d
  | [], _, _, _, h => by simp [startD] at h
  | _ :: N, d :: ds, 0, e, h => by simp [startD] at h; simp [h]
  | _ :: N, d :: ds, i + 1, e, h => by simp [startD] at h; simpa using startD_at h
  | _ :: N, [], 0, e, h => by simp [startD] at h
  | _ :: N, [], i + 1, e, h => by simp [startD] at h; simpa using startD_at h
theorem startD_len : ∀ (N : List Str) (ds : List D), (startD N ds).length = N.length
  | [], _ => rfl
  | _ :: N, d :: ds => by simp [startD, startD_len N ds]
  | _ :: N, [] => by simp [startD, startD_len N []]
theorem relS_start {N : List Str} {vs : List V} {ds : List D} (r : RelA K H M vs ds) (hl : ds.length ≤ N.length) : RelS K H M (start N vs) (startD N ds) := by
  have q := r.length
  refine ⟨by rw [startD_len]; unfold start; simp; omega, fun i d h => ?_⟩
  have e := startD_at h
  obtain ⟨v, a, b⟩ := r.get e
  refine ⟨v, ?_, b⟩
  unfold start
  rw [List.getElem?_append_left (by simpa using (List.getElem?_eq_some_iff.mp a).1), List.getElem?_map, a]
  rfl
/-! ### what is raised -/
structure Ex where
  C : Str
  fs : List (Str × D)
def RelX (K : ZK) (H : Hp) (M : MS) (cls : Value) (d : Option Addr) (x : Ex) : Prop :=
  (∃ aC, cls = .ref aC ∧ PySem.W.nsIn K.K mainGlobals x.C = some (some (.ref aC))) ∧ ∃ dx gs, d = some dx ∧ H dx = some (.xd gs) ∧ M dx = none ∧ RelK K H M gs x.fs
end
end L2.DL
/-! DLb: the judgements over data, expressions -/
namespace L2.DL
open PySem PySem.Spec PyProof.Rows
variable [Tbs]

abbrev PD := D → MS → Prop
abbrev XP := Ex → Sl → MS → Prop
abbrev DTE := Sl → PD → XP → MS → Prop
abbrev DTT := Sl → (Bool → MS → Prop) → XP → MS → Prop
abbrev DTA := Sl → (List D → MS → Prop) → XP → MS → Prop
abbrev DTO := Sl → (Option Int → MS → Prop) → XP → MS → Prop
structure DEnds where
  nx : Sl → MS → Prop
  rt : PD
  bk : Sl → MS → Prop := fun _ _ => False
  ct : Sl → MS → Prop := fun _ _ => False
  ex : XP := fun _ _ _ => False
abbrev DTS := DEnds → Sl → MS → Prop

section
variable (K : ZK)
def XOk (H : Hp) (M : MS) (W : WX) (E : XP) : Prop := ∀ x ρ' M' cls d σ' H', E x ρ' M' → RelM K H' M' → RelS K H' M' σ' ρ' → RelX K H' M' cls d x → Ext K H M H' M' → W cls d σ' H'
def Cont (H : Hp) (M : MS) (R : PD) (Q : VK) : Prop := ∀ d M' v H', R d M' → RelM K H' M' → Rel K H' M' v d → Ext K H M H' M' → Q v H'
structure LS (W : WX) (De : Ends) (Dd : DEnds) (H : Hp) (M : MS) : Prop where
  nx : ∀ ρ' M' σ' H', Dd.nx ρ' M' → RelM K H' M' → RelS K H' M' σ' ρ' → Ext K H M H' M' → De.nx σ' H'
  rt : Cont K H M Dd.rt De.rt
  bk : ∀ ρ' M' σ' H', Dd.bk ρ' M' → RelM K H' M' → RelS K H' M' σ' ρ' → Ext K H M H' M' → De.bk σ' H'
  ct : ∀ ρ' M' σ' H', Dd.ct ρ' M' → RelM K H' M' → RelS K H' M' σ' ρ' → Ext K H M H' M' → De.ct σ' H'
  ex : XOk K H M W Dd.ex
end
abbrev Hd := Addr → Option (List V)
section
variable (F : PySem.W.Frag)
def lift (W : WX) (t : DTE) : TE := fun σ H Q => ∃ (z : Hd) (ρ : Sl) (M : MS) (R : PD) (E : XP), RelS ⟨F, z⟩ H M σ ρ ∧ RelM ⟨F, z⟩ H M ∧ t ρ R E M ∧ Cont ⟨F, z⟩ H M R Q ∧ XOk ⟨F, z⟩ H M W E
def liftT (W : WX) (t : DTT) : TT := fun σ H Q => ∃ (z : Hd) (ρ : Sl) (M : MS) (R : Bool → MS → Prop) (E : XP), RelS ⟨F, z⟩ H M σ ρ ∧ RelM ⟨F, z⟩ H M ∧ t ρ R E M ∧ (∀ b M' H', R b M' → RelM ⟨F, z⟩ H' M' → Ext ⟨F, z⟩ H M H' M' → Q b H') ∧ XOk ⟨F, z⟩ H M W E
def liftA (W : WX) (t : DTA) : TA := fun σ H Q => ∃ (z : Hd) (ρ : Sl) (M : MS) (R : List D → MS → Prop) (E : XP), RelS ⟨F, z⟩ H M σ ρ ∧ RelM ⟨F, z⟩ H M ∧ t ρ R E M ∧ (∀ ds M' vs H', R ds M' → RelM ⟨F, z⟩ H' M' → RelA ⟨F, z⟩ H' M' vs ds → Ext ⟨F, z⟩ H M H' M' → Q vs H') ∧ XOk ⟨F, z⟩ H M W E
def liftO (W : WX) (t : DTO) : TO := fun σ H Q => ∃ (z : Hd) (ρ : Sl) (M : MS) (R : Option Int → MS → Prop) (E : XP), RelS ⟨F, z⟩ H M σ ρ ∧ RelM ⟨F, z⟩ H M ∧ t ρ R E M ∧ (∀ o M' H', R o M' → RelM ⟨F, z⟩ H' M' → Ext ⟨F, z⟩ H M H' M' → Q o H') ∧ XOk ⟨F, z⟩ H M W E
def liftS (W : WX) (t : DTS) : TS := fun De σ H => ∃ (z : Hd) (ρ : Sl) (M : MS) (Dd : DEnds), RelS ⟨F, z⟩ H M σ ρ ∧ RelM ⟨F, z⟩ H M ∧ t Dd ρ M ∧ LS ⟨F, z⟩ W De Dd H M
end
section
variable {K : ZK} {H H' : Hp} {M M' : MS} {W : WX} {E : XP} {R : PD} {Q : VK}
theorem XOk.ext (h : XOk K H M W E) (e : Ext K H M H' M') : XOk K H' M' W E := fun x ρ' M2 cls d σ' H2 a b c r f => h x ρ' M2 cls d σ' H2 a b c r (e.trans f)
theorem Cont.ext (h : Cont K H M R Q) (e : Ext K H M H' M') : Cont K H' M' R Q := fun d M2 v H2 a b c f => h d M2 v H2 a b c (e.trans f)
theorem LS.ext {De : Ends} {Dd : DEnds} (h : LS K W De Dd H M) (e : Ext K H M H' M') : LS K W De Dd H' M' :=
  ⟨fun a b c d p q r f => h.nx a b c d p q r (e.trans f), h.rt.ext e, fun a b c d p q r f => h.bk a b c d p q r (e.trans f), fun a b c d p q r f => h.ct a b c d p q r (e.trans f), h.ex.ext e⟩
theorem Cont.here (h : Cont K H M R Q) {d : D} {v : V} (r : R d M) (m : RelM K H M) (q : Rel K H M v d) : Q v H := h d M v H r m q Ext.refl
end

abbrev DE (X : Cx) (W : WX) (e : Expr) (t : DTE) : Prop := PE X e (lift X.K W t)
abbrev DT (X : Cx) (W : WX) (e : Expr) (t : DTT) : Prop := PT X e (liftT X.K W t)
abbrev DW (X : Cx) (W : WX) (e : Expr) (t : DTT) : Prop := PW X e (liftT X.K W t)
abbrev DA (X : Cx) (W : WX) (es : List Expr) (t : DTA) : Prop := PA X es (liftA X.K W t)
abbrev DO (X : Cx) (W : WX) (e : Option Expr) (t : DTO) : Prop := PO X e (liftO X.K W t)
abbrev DS (X : Cx) (W : WX) (st : Stmt) (t : DTS) : Prop := PS X st (liftS X.K W t)
abbrev DSs (X : Cx) (W : WX) (sts : List Stmt) (t : DTS) : Prop := PSs X sts (liftS X.K W t)

theorem imp {X : Cx} {e : Expr} {t u : TE} (h : PE X e t) (hi : ∀ σ H Q, u σ H Q → t σ H Q) : PE X e u := ⟨fun pins s σ H Q I q => h.run pins s σ H Q I (hi σ H Q q)⟩
theorem impT {X : Cx} {e : Expr} {t u : TT} (h : PT X e t) (hi : ∀ σ H Q, u σ H Q → t σ H Q) : PT X e u := ⟨fun pins s σ H Q I q => h.run pins s σ H Q I (hi σ H Q q)⟩
theorem impW {X : Cx} {e : Expr} {t u : TT} (h : PW X e t) (hi : ∀ σ H Q, u σ H Q → t σ H Q) : PW X e u := ⟨fun w pins s σ H Q I q => h.run w pins s σ H Q I (hi σ H Q q)⟩
theorem impA {X : Cx} {e : List Expr} {t u : TA} (h : PA X e t) (hi : ∀ σ H Q, u σ H Q → t σ H Q) : PA X e u := ⟨fun pos pins s σ H Q I q => h.run pos pins s σ H Q I (hi σ H Q q)⟩
theorem impO {X : Cx} {e : Option Expr} {t u : TO} (h : PO X e t) (hi : ∀ σ H Q, u σ H Q → t σ H Q) : PO X e u := ⟨fun pins s σ H Q I q => h.run pins s σ H Q I (hi σ H Q q)⟩
theorem impS {X : Cx} {e : Stmt} {t u : TS} (h : PS X e t) (hi : ∀ D σ H, u D σ H → t D σ H) : PS X e u := ⟨fun pins s σ H Q I q => h.run pins s σ H Q I (hi Q σ H q)⟩
theorem impSs {X : Cx} {e : List Stmt} {t u : TS} (h : PSs X e t) (hi : ∀ D σ H, u D σ H → t D σ H) : PSs X e u := ⟨fun pins s σ H Q I q => h.run pins s σ H Q I (hi Q σ H q)⟩

/-- the i-th slot -/
def sl : Sl → Nat → Option D
  | [], _ => none
  | x :: _, 0 => x
  | _ :: r, n + 1 => sl r n
theorem sl_get : ∀ {ρ : Sl} {i : Nat} {d : D}, sl ρ i = some d → ρ[i]? = some (some d)
  | [], i, d, h => by cases h
  | x :: r, 0, d, h => by have h' : x = some d := h; subst h'; rfl
  | x :: r, n + 1, d, h => by have h' : sl r n = some d := h; simpa using sl_get h'

section
variable {X : Cx} {W : WX} {a b c e : Expr} {ta tb tc te : DTE} {tA tB : DTT} {pos : Pos}

/-! ### names, constants -/
def dVar (i : Nat) : DTE := fun ρ R _ M => match sl ρ i with | some d => R d M | none => False
def dC (d : D) : DTE := fun _ R _ M => R d M
theorem de_var (i : Nat) {x : Str} {pos : Pos} (hN : X.N[i]? = some x := by rfl) (hv : Vis X.env.scope x := by first | exact Or.inl rfl | exact Or.inr (Or.inl rfl) | exact Or.inr (Or.inr rfl)) (hd : (x == ("__debug__" : Str)) = false := by decide)
    (hcd : (x == ("__classdict__" : Str)) = false := by decide) : DE X W (.Name x pos) (dVar i) :=
  imp (pe_var hN hv hd hcd) fun σ H Q ⟨z, ρ, M, R, E, hs, hm, h, hc, _⟩ => by
    unfold dVar at h
    cases q : sl ρ i with
    | none => rw [q] at h; exact h.elim
    | some d =>
      rw [q] at h
      obtain ⟨v, e1, r⟩ := hs.2 i d (sl_get q)
      exact ⟨v, e1, hc.here h hm r⟩
theorem de_c {d : D} {v : V} (h : PE X e (tC v)) (hr : ∀ z H M, Rel ⟨X.K, z⟩ H M v d) : DE X W e (dC d) :=
  imp h fun σ H Q ⟨z, ρ, M, R, E, hs, hm, h, hc, _⟩ => hc.here h hm (hr z H M)
theorem de_int {i j pos} : DE X W (.Constant (.int i) j pos) (dC (.int i)) := de_c pe_int fun _ _ _ => .int _
theorem de_bl {i j pos} : DE X W (.Constant (.bool i) j pos) (dC (.bl i)) := de_c pe_bl fun _ _ _ => .bl _
theorem de_non {j pos} : DE X W (.Constant .none j pos) (dC .non) := de_c pe_non fun _ _ _ => .non
theorem de_str {x j pos} : DE X W (.Constant (.str x) j pos) (dC (.str x)) := de_c pe_str fun _ _ _ => .str _
/-- a def, a class of the text by its name, as a value -/
theorem de_glob {x : Str} {f : Addr} {pos : Pos} (hm : X.mg x = some (.ref f)) (hg : Gl X x := by rfl) (hd : (x == ("__debug__" : Str)) = false := by decide) : DE X W (.Name x pos) (dC (.ref f)) :=
  de_c (v := .ref f) (pe_glob (v := .ref f) hg hm rfl hd) fun _ _ _ => .ref _

/-! ### argument lists, displays -/
def dNil : DTA := fun _ R _ M => R [] M
def dCons (ta : DTE) (tr : DTA) : DTA := fun ρ R E M => ta ρ (fun x M1 => tr ρ (fun xs M2 => R (x :: xs) M2) E M1) E M
theorem da_nil : DA X W [] dNil := impA pa_nil fun σ H Q ⟨z, ρ, M, R, E, hs, hm, h, hc, _⟩ => hc _ _ _ _ h hm .nil Ext.refl
theorem da_cons {es : List Expr} {t : DTA} (ha : DE X W e te) (hr : DA X W es t) (hs : starEach (e :: es) X.env = (false, eval e X.env) :: starEach es X.env := by rfl) : DA X W (e :: es) (dCons te t) :=
  impA (pa_cons ha hr hs) fun σ H Q ⟨z, ρ, M, R, E, hs, hm, h, hc, hE⟩ =>
    ⟨z, ρ, M, _, E, hs, hm, h, fun x M1 v H1 h1 m1 r1 e1 => ⟨z, ρ, M1, _, E, hs.ext e1, m1, h1, fun ds M2 vs H2 h2 m2 r2 e2 => hc _ _ _ _ h2 m2 (.cons (e2 _ _ r1) r2) (e1.trans e2), hE.ext e1⟩, hE⟩
def dTup (t : DTA) : DTE := fun ρ R E M => t ρ (fun ds M1 => ds.length ≤ sizeLine ∧ R (.tup ds) M1) E M
theorem de_tup {es : List Expr} {x1} {t : DTA} (h : DA X W es t) : DE X W (.Tuple es x1 pos) (dTup t) :=
  imp (pe_tup h) fun σ H Q ⟨z, ρ, M, R, E, hs, hm, h, hc, hE⟩ =>
    ⟨z, ρ, M, _, E, hs, hm, h, fun ds M1 vs H1 h1 m1 r1 e1 => ⟨by rw [r1.length]; exact h1.1, fun p hp =>
      hc _ _ _ _ h1.2 (relM_new m1 hp) (.tup (SqT.of upd_same) ((ext_new m1 hp).all r1)) (e1.trans (ext_new m1 hp))⟩, hE⟩
/-- a list that nobody changes -/
def dLst (t : DTA) : DTE := fun ρ R E M => t ρ (fun ds M1 => ds.length ≤ sizeLine ∧ R (.lst ds) M1) E M
theorem fz_new {K : ZK} {H : Hp} {M : MS} {p : Addr} {vs : List V} (m : RelM K H M) (hp : H p = none) : Fz K (upd H p (.lst vs)) M p vs := ⟨⟨m.free hp, m.freeH hp⟩, upd_same⟩
theorem de_lst {es : List Expr} {t : DTA} (h : DA X W es t) : DE X W (.List es pos) (dLst t) :=
  imp (pe_lst h) fun σ H Q ⟨z, ρ, M, R, E, hs, hm, h, hc, hE⟩ =>
    ⟨z, ρ, M, _, E, hs, hm, h, fun ds M1 vs H1 h1 m1 r1 e1 => ⟨by rw [r1.length]; exact h1.1, fun p hp =>
      hc _ _ _ _ h1.2 (relM_new m1 hp) (.lst (fz_new m1 hp) ((ext_new m1 hp).all r1)) (e1.trans (ext_new m1 hp))⟩, hE⟩
/-- a new list of the store -/
def dLstN (t : DTA) : DTE := fun ρ R E M => t ρ (fun ds M1 => ds.length ≤ sizeLine ∧ ∀ p, M1 p = none → R (.ref p) (um M1 p (.lst ds))) E M
theorem alloc_lst {K : ZK} {H : Hp} {M : MS} {p : Addr} {vs : List V} {ds : List D} (m : RelM K H M) (hp : H p = none) (r : RelA K H M vs ds) : RelM K (upd H p (.lst vs)) (um M p (.lst ds)) :=
  relM_alloc m hp ⟨vs, upd_same, (ext_alloc m hp).all r⟩
theorem de_lstN {es : List Expr} {t : DTA} (h : DA X W es t) : DE X W (.List es pos) (dLstN t) :=
  imp (pe_lst h) fun σ H Q ⟨z, ρ, M, R, E, hs, hm, h, hc, hE⟩ =>
    ⟨z, ρ, M, _, E, hs, hm, h, fun ds M1 vs H1 h1 m1 r1 e1 => ⟨by rw [r1.length]; exact h1.1, fun p hp =>
      hc _ _ _ _ (h1.2 p (m1.free hp)) (alloc_lst m1 hp r1) (.ref p) (e1.trans (ext_alloc m1 hp))⟩, hE⟩

/-! ### operations of two values -/
def OpD (X : Cx) (fop : Value → Value → Sem Value) (f : D → D → PD → MS → Prop) : Prop :=
  ∃ r, OpR X fop r ∧ ∀ z H M x y vx vy R Q, RelM ⟨X.K, z⟩ H M → Rel ⟨X.K, z⟩ H M vx x → Rel ⟨X.K, z⟩ H M vy y → f x y R M → Cont ⟨X.K, z⟩ H M R Q → r vx vy H Q
def dOp (f : D → D → PD → MS → Prop) (ta tb : DTE) : DTE := fun ρ R E M => ta ρ (fun x M1 => tb ρ (fun y M2 => f x y R M2) E M1) E M
theorem de_op {op : Operator} {f : D → D → PD → MS → Prop} (o : OpD X (binaryOp op) f) (ha : DE X W a ta) (hb : DE X W b tb) : DE X W (.BinOp a op b pos) (dOp f ta tb) := by
  obtain ⟨r, ho, ad⟩ := o
  exact imp (pe_op ho ha hb) fun σ H Q ⟨z, ρ, M, R, E, hs, hm, h, hc, hE⟩ =>
    ⟨z, ρ, M, _, E, hs, hm, h, fun x M1 vx H1 h1 m1 r1 e1 => ⟨z, ρ, M1, _, E, hs.ext e1, m1, h1, fun y M2 vy H2 h2 m2 r2 e2 => ad _ _ _ _ _ _ _ _ _ m2 (e2 _ _ r1) r2 h2 (hc.ext (e1.trans e2)), hE.ext e1⟩, hE⟩
theorem de_cmp {op : CmpOp} {f : D → D → PD → MS → Prop} (o : OpD X (compareOp op) f) (ha : DE X W a ta) (hb : DE X W b tb) (hm : behindInMarks op b = false := by first | exact nomark _ | rfl) : DE X W (.Compare a [op] [b] pos) (dOp f ta tb) := by
  obtain ⟨r, ho, ad⟩ := o
  exact imp (pe_cmpR ho ha hb hm) fun σ H Q ⟨z, ρ, M, R, E, hs, hm, h, hc, hE⟩ =>
    ⟨z, ρ, M, _, E, hs, hm, h, fun x M1 vx H1 h1 m1 r1 e1 => ⟨z, ρ, M1, _, E, hs.ext e1, m1, h1, fun y M2 vy H2 h2 m2 r2 e2 => ad _ _ _ _ _ _ _ _ _ m2 (e2 _ _ r1) r2 h2 (hc.ext (e1.trans e2)), hE.ext e1⟩, hE⟩
/-- a test that gives True or False -/
def dTst (t : DTE) : DTT := fun ρ R E M => t ρ (fun d M1 => match d with | .bl k => R k M1 | _ => False) E M
theorem dt_cmp {op : CmpOp} {f : D → D → PD → MS → Prop} (o : OpD X (compareOp op) f) (ha : DE X W a ta) (hb : DE X W b tb) (hm : behindInMarks op b = false := by first | exact nomark _ | rfl) : DT X W (.Compare a [op] [b] pos) (dTst (dOp f ta tb)) := by
  obtain ⟨r, ho, ad⟩ := o
  exact impT (pt_cmpR ho ha hb hm) fun σ H Q ⟨z, ρ, M, R, E, hs, hm, h, hc, hE⟩ =>
    ⟨z, ρ, M, _, E, hs, hm, h, fun x M1 vx H1 h1 m1 r1 e1 => ⟨z, ρ, M1, _, E, hs.ext e1, m1, h1, fun y M2 vy H2 h2 m2 r2 e2 => ad _ _ _ _ _ _ _ _ _ m2 (e2 _ _ r1) r2 h2 (fun d M3 v H3 h3 m3 r3 e3 => by
      cases d with
      | bl k => cases r3; exact ⟨k, rfl, hc _ _ _ h3 m3 (e1.trans (e2.trans e3))⟩
      | _ => exact h3.elim), hE.ext e1⟩, hE⟩
def dChain (f g : D → D → PD → MS → Prop) (ta tb tc : DTE) : DTE := fun ρ R E M => ta ρ (fun x M1 => tb ρ (fun y M2 => f x y (fun z M3 => match z with
  | .bl k => if k = true then tc ρ (fun w M4 => g y w R M4) E M3 else R (.bl false) M3
  | _ => False) M2) E M1) E M
theorem de_chain {op op' : CmpOp} {f g : D → D → PD → MS → Prop} (o : OpD X (compareOp op) f) (o' : OpD X (compareOp op') g) (ha : DE X W a ta) (hb : DE X W b tb) (hc : DE X W c tc)
    (hm : lastMarks [op, op'] [b, c] = false := by with_unfolding_all rfl) : DE X W (.Compare a [op, op'] [b, c] pos) (dChain f g ta tb tc) := by
  obtain ⟨r, ho, ad⟩ := o
  obtain ⟨r', ho', ad'⟩ := o'
  exact imp (pe_chain ho ho' ha hb hc hm) fun σ H Q ⟨z, ρ, M, R, E, hs, hm, h, hk, hE⟩ =>
    ⟨z, ρ, M, _, E, hs, hm, h, fun x M1 vx H1 h1 m1 r1 e1 => ⟨z, ρ, M1, _, E, hs.ext e1, m1, h1, fun y M2 vy H2 h2 m2 r2 e2 => ad _ _ _ _ _ _ _ _ _ m2 (e2 _ _ r1) r2 h2 (fun d M3 v H3 h3 m3 r3 e3 => by
      cases d with
      | bl k =>
        cases r3
        refine ⟨k, rfl, ?_⟩
        cases k with
        | true => exact iteT ⟨z, ρ, M3, _, E, hs.ext (e1.trans (e2.trans e3)), m3, h3, fun w M4 vw H4 h4 m4 r4 e4 => ad' _ _ _ _ _ _ _ _ _ m4 ((e3.trans e4) _ _ r2) r4 h4 (hk.ext (e1.trans (e2.trans (e3.trans e4)))), hE.ext (e1.trans (e2.trans e3))⟩
        | false => exact iteF (hk _ _ _ _ h3 m3 (.bl _) (e1.trans (e2.trans e3)))
      | _ => exact h3.elim), hE.ext e1⟩, hE⟩
theorem dt_chain {op op' : CmpOp} {f g : D → D → PD → MS → Prop} (o : OpD X (compareOp op) f) (o' : OpD X (compareOp op') g) (ha : DE X W a ta) (hb : DE X W b tb) (hc : DE X W c tc)
    (hm : lastMarks [op, op'] [b, c] = false := by with_unfolding_all rfl) : DT X W (.Compare a [op, op'] [b, c] pos) (dTst (dChain f g ta tb tc)) := by
  obtain ⟨r, ho, ad⟩ := o
  obtain ⟨r', ho', ad'⟩ := o'
  exact impT (pt_chain ho ho' ha hb hc hm) fun σ H Q ⟨z, ρ, M, R, E, hs, hm, h, hk, hE⟩ =>
    ⟨z, ρ, M, _, E, hs, hm, h, fun x M1 vx H1 h1 m1 r1 e1 => ⟨z, ρ, M1, _, E, hs.ext e1, m1, h1, fun y M2 vy H2 h2 m2 r2 e2 => ad _ _ _ _ _ _ _ _ _ m2 (e2 _ _ r1) r2 h2 (fun d M3 v H3 h3 m3 r3 e3 => by
      cases d with
      | bl k =>
        cases r3
        refine ⟨k, rfl, ?_⟩
        cases k with
        | true => exact iteT ⟨z, ρ, M3, _, E, hs.ext (e1.trans (e2.trans e3)), m3, h3, fun w M4 vw H4 h4 m4 r4 e4 => ad' _ _ _ _ _ _ _ _ _ m4 ((e3.trans e4) _ _ r2) r4 h4 (fun d5 M5 v5 H5 h5 m5 r5 e5 => by
            cases d5 with
            | bl k5 => cases r5; exact ⟨k5, rfl, hk _ _ _ h5 m5 (e1.trans (e2.trans (e3.trans (e4.trans e5))))⟩
            | _ => exact h5.elim), hE.ext (e1.trans (e2.trans e3))⟩
        | false => exact iteF ⟨false, rfl, hk _ _ _ h3 m3 (e1.trans (e2.trans e3))⟩
      | _ => exact h3.elim), hE.ext e1⟩, hE⟩

/-! ### tests -/
end
end L2.DL
/-! DLc: tests, operators, items, slices -/
namespace L2.DL
open PySem PySem.Spec PyProof.Rows
variable [Tbs]

/-! ### data as the library has it -/
mutual
def pd : D → PyData
  | .non => .none | .bl b => .bool b | .int i => .int i | .str x => .str x
  | .tup ds => .tuple (pds ds) | .lst ds => .list (pds ds)
  | .ty _ => .none | .ref _ => .none | .scr _ => .none | .fn _ => .none | .clo _ _ _ => .none
def pds : List D → List PyData
  | [] => []
  | d :: ds => pd d :: pds ds
end
mutual
def isP : D → Bool
  | .non => true | .bl _ => true | .int _ => true | .str _ => true
  | .tup ds => isPs ds | .lst ds => isPs ds
  | .ty _ => false | .ref _ => false | .scr _ => false | .fn _ => false | .clo _ _ _ => false
def isPs : List D → Bool
  | [] => true
  | d :: ds => isP d && isPs ds
end
section
variable {K : ZK} {H : Hp} {M : MS}
mutual
theorem dp_of : ∀ (d : D) (v : V), isP d = true → Rel K H M v d → Dp K.K H v (pd d)
  | .non, _, _, h => by cases h; exact .non
  | .bl b, _, _, h => by cases h; exact .bl b
  | .int b, _, _, h => by cases h; exact .int b
  | .str b, _, _, h => by cases h; exact .str b
  | .tup ds, _, p, h => by
    cases h with
    | tup a b => exact .tup a (dps_of ds _ p b)
  | .lst ds, _, p, h => by
    cases h with
    | lst a b => exact .lst a.sq (dps_of ds _ p b)
  | .ty _, _, p, _ => by cases p
  | .ref _, _, p, _ => by cases p
  | .scr _, _, p, _ => by cases p
  | .fn _, _, p, _ => by cases p
  | .clo _ _ _, _, p, _ => by cases p
theorem dps_of : ∀ (ds : List D) (vs : List V), isPs ds = true → RelA K H M vs ds → DpAll K.K H vs (pds ds)
  | [], _, _, h => by cases h; exact .nil
  | d :: ds, _, p, h => by
    have p' : (isP d && isPs ds) = true := p
    rw [Bool.and_eq_true] at p'
    cases h with
    | cons a b => exact .cons (dp_of d _ p'.1 a) (dps_of ds _ p'.2 b)
end
/-- what is read of a value: a list of the store by its items -/
def Sees (M : MS) : D → D → Prop
  | .ref a, e => ∃ ds, M a = some (.lst ds) ∧ e = .lst ds
  | d, e => e = d
theorem dp_sees (m : RelM K H M) {d e : D} {v : V} (s : Sees M d e) (p : isP e = true) (r : Rel K H M v d) : Dp K.K H v (pd e) := by
  cases d with
  | ref a =>
    obtain ⟨ds, ea, rfl⟩ := s
    cases r
    obtain ⟨vs, q, ra⟩ := m.at' a _ ea
    exact .lst (SqL.of q) (dps_of ds vs p ra)
  | _ => (have s' := s; subst s'; exact dp_of _ v p r)
/-- the items of a list -/
def Ls (M : MS) : D → List D → Prop
  | .lst ds, e => e = ds
  | .ref a, e => M a = some (.lst e)
  | _, _ => False
theorem ls_at (m : RelM K H M) {d : D} {ds : List D} {v : V} (s : Ls M d ds) (r : Rel K H M v d) : ∃ p vs, v = .ref p ∧ H p = some (.lst vs) ∧ RelA K H M vs ds := by
  cases d with
  | ref a =>
    cases r
    obtain ⟨vs, q, ra⟩ := m.at' a _ s
    exact ⟨a, vs, rfl, q, ra⟩
  | lst es =>
    have s' : ds = es := s
    subst s'
    cases r with
    | lst f ra => exact ⟨_, _, rfl, f.2, ra⟩
  | _ => exact (show False from s).elim
end

section
variable {X : Cx} {W : WX} {a b c e : Expr} {ta tb tc te : DTE} {tA tB : DTT} {pos : Pos}

/-! ### truth, tests -/
def truD : D → (Bool → MS → Prop) → MS → Prop
  | .non, R, M => R false M
  | .bl b, R, M => R b M
  | .int i, R, M => R (i != 0) M
  | .str x, R, M => x.length ≤ sizeLine ∧ R ((x.length : Int) != 0) M
  | .tup ds, R, M => R (!ds.isEmpty) M
  | .lst ds, R, M => R (!ds.isEmpty) M
  | .ref a, R, M => ∃ ds, M a = some (.lst ds) ∧ R (!ds.isEmpty) M
  | _, _, _ => False
theorem emp_of {K : ZK} {H : Hp} {M : MS} {vs : List V} {ds : List D} (r : RelA K H M vs ds) : ds.isEmpty = vs.isEmpty := by cases r <;> rfl
theorem tru_of {K : ZK} {H : Hp} {M : MS} {d : D} {v : V} {R : Bool → MS → Prop} (m : RelM K H M) (r : Rel K H M v d) (h : truD d R M) : ∃ k, TruV K.K v H k ∧ R k M := by
  cases d with
  | non => cases r; exact ⟨_, rfl, h⟩
  | bl b => cases r; exact ⟨_, rfl, h⟩
  | int i => cases r; exact ⟨_, rfl, h⟩
  | str x => cases r; exact ⟨_, ⟨h.1, rfl⟩, h.2⟩
  | tup ds =>
    cases r with
    | tup a b => exact ⟨_, .inr (.inl ⟨_, a, rfl⟩), by rw [← emp_of b]; exact h⟩
  | lst ds =>
    cases r with
    | lst a b => exact ⟨_, .inl ⟨_, a.sq, rfl⟩, by rw [← emp_of b]; exact h⟩
  | ref a =>
    obtain ⟨ds, ea, q⟩ := h
    cases r
    obtain ⟨vs, e1, ra⟩ := m.at' a _ ea
    exact ⟨_, .inl ⟨_, SqL.of e1, rfl⟩, by rw [← emp_of ra]; exact q⟩
  | _ => exact (show False from h).elim
def dTru (t : DTE) : DTT := fun ρ R E M => t ρ (fun d M1 => truD d R M1) E M
theorem dt_tru (ha : DE X W a ta) (he : ∀ whole, isTrue a X.env whole = (do let v ← whole; standAt a.pos; holding [v] (truthy v)) := by intro _; rfl) : DT X W a (dTru ta) :=
  impT (pt_truth ha he) fun σ H Q ⟨z, ρ, M, R, E, hs, hm, h, hc, hE⟩ =>
    ⟨z, ρ, M, _, E, hs, hm, h, fun d M1 v H1 h1 m1 r1 e1 => by
      obtain ⟨k, t, q⟩ := tru_of m1 r1 h1
      exact ⟨k, t, hc _ _ _ q m1 e1⟩, hE⟩
def dAnd (t u : DTT) : DTT := fun ρ R E M => t ρ (fun b M1 => if b = true then u ρ R E M1 else R false M1) E M
def dOr (t u : DTT) : DTT := fun ρ R E M => t ρ (fun b M1 => if b = true then R true M1 else u ρ R E M1) E M
def dNot (t : DTT) : DTT := fun ρ R E M => t ρ (fun b M1 => R (!b) M1) E M
theorem dw_and1 (ha : DT X W a tA) : DW X W (.BoolOp .And [a] pos) tA := pw_and1 ha
theorem dw_or1 (ha : DT X W a tA) : DW X W (.BoolOp .Or [a] pos) tA := pw_or1 ha
theorem dw_and {r : List Expr} (ha : DT X W a tA) (hb : DW X W (.BoolOp .And (b :: r) pos) tB) : DW X W (.BoolOp .And (a :: b :: r) pos) (dAnd tA tB) :=
  impW (pw_and ha hb) fun σ H Q ⟨z, ρ, M, R, E, hs, hm, h, hc, hE⟩ =>
    ⟨z, ρ, M, _, E, hs, hm, h, fun k M1 H1 h1 m1 e1 => by
      cases k with
      | true => exact iteT ⟨z, ρ, M1, R, E, hs.ext e1, m1, by simpa using h1, fun k2 M2 H2 h2 m2 e2 => hc _ _ _ h2 m2 (e1.trans e2), hE.ext e1⟩
      | false => exact iteF (hc _ _ _ (by simpa using h1) m1 e1), hE⟩
theorem dw_or {r : List Expr} (ha : DT X W a tA) (hb : DW X W (.BoolOp .Or (b :: r) pos) tB) : DW X W (.BoolOp .Or (a :: b :: r) pos) (dOr tA tB) :=
  impW (pw_or ha hb) fun σ H Q ⟨z, ρ, M, R, E, hs, hm, h, hc, hE⟩ =>
    ⟨z, ρ, M, _, E, hs, hm, h, fun k M1 H1 h1 m1 e1 => by
      cases k with
      | true => exact iteT (hc _ _ _ (by simpa using h1) m1 e1)
      | false => exact iteF ⟨z, ρ, M1, R, E, hs.ext e1, m1, by simpa using h1, fun k2 M2 H2 h2 m2 e2 => hc _ _ _ h2 m2 (e1.trans e2), hE.ext e1⟩, hE⟩
theorem dt_not (ha : DT X W a tA) : DT X W (.UnaryOp .Not a pos) (dNot tA) :=
  impT (pt_not ha) fun σ H Q ⟨z, ρ, M, R, E, hs, hm, h, hc, hE⟩ =>
    ⟨z, ρ, M, _, E, hs, hm, h, fun k M1 H1 h1 m1 e1 => hc _ _ _ h1 m1 e1, hE⟩
/-- and, or, not as values -/
def dAndV (ta tb : DTE) : DTE := fun ρ R E M => ta ρ (fun x M1 => truD x (fun k M2 => if k = true then tb ρ R E M2 else R x M2) M1) E M
def dOrV (ta tb : DTE) : DTE := fun ρ R E M => ta ρ (fun x M1 => truD x (fun k M2 => if k = true then R x M2 else tb ρ R E M2) M1) E M
def dNotV (ta : DTE) : DTE := fun ρ R E M => ta ρ (fun x M1 => truD x (fun k M2 => R (.bl (!k)) M2) M1) E M
theorem de_one {op} (ha : DE X W a ta) : DE X W (.BoolOp op [a] pos) ta := pe_one ha
theorem de_and {r : List Expr} (ha : DE X W a ta) (hb : DE X W (.BoolOp .And (b :: r) pos) tb) : DE X W (.BoolOp .And (a :: b :: r) pos) (dAndV ta tb) :=
  imp (pe_andT ha hb) fun σ H Q ⟨z, ρ, M, R, E, hs, hm, h, hc, hE⟩ =>
    ⟨z, ρ, M, _, E, hs, hm, h, fun d M1 v H1 h1 m1 r1 e1 => by
      obtain ⟨k, t, q⟩ := tru_of m1 r1 h1
      refine ⟨k, t, ?_⟩
      cases k with
      | true => exact iteT ⟨z, ρ, M1, R, E, hs.ext e1, m1, by simpa using q, hc.ext e1, hE.ext e1⟩
      | false => exact iteF (hc _ _ _ _ (by simpa using q) m1 r1 e1), hE⟩
theorem de_or {r : List Expr} (ha : DE X W a ta) (hb : DE X W (.BoolOp .Or (b :: r) pos) tb) : DE X W (.BoolOp .Or (a :: b :: r) pos) (dOrV ta tb) :=
  imp (pe_orT ha hb) fun σ H Q ⟨z, ρ, M, R, E, hs, hm, h, hc, hE⟩ =>
    ⟨z, ρ, M, _, E, hs, hm, h, fun d M1 v H1 h1 m1 r1 e1 => by
      obtain ⟨k, t, q⟩ := tru_of m1 r1 h1
      refine ⟨k, t, ?_⟩
      cases k with
      | true => exact iteT (hc _ _ _ _ (by simpa using q) m1 r1 e1)
      | false => exact iteF ⟨z, ρ, M1, R, E, hs.ext e1, m1, by simpa using q, hc.ext e1, hE.ext e1⟩, hE⟩
theorem de_not (ha : DE X W a ta) : DE X W (.UnaryOp .Not a pos) (dNotV ta) :=
  imp (pe_notT ha) fun σ H Q ⟨z, ρ, M, R, E, hs, hm, h, hc, hE⟩ =>
    ⟨z, ρ, M, _, E, hs, hm, h, fun d M1 v H1 h1 m1 r1 e1 => by
      obtain ⟨k, t, q⟩ := tru_of m1 r1 h1
      exact ⟨k, t, hc _ _ _ _ q m1 (.bl _) e1⟩, hE⟩
def dIf (tA : DTT) (ta tb : DTE) : DTE := fun ρ R E M => tA ρ (fun k M1 => if k = true then ta ρ R E M1 else tb ρ R E M1) E M
theorem de_ifExp (hc : DT X W c tA) (ha : DE X W a ta) (hb : DE X W b tb) : DE X W (.IfExp c a b pos) (dIf tA ta tb) :=
  imp (pe_ifExp hc ha hb) fun σ H Q ⟨z, ρ, M, R, E, hs, hm, h, hk, hE⟩ =>
    ⟨z, ρ, M, _, E, hs, hm, h, fun k M1 H1 h1 m1 e1 => by
      cases k with
      | true => exact iteT ⟨z, ρ, M1, R, E, hs.ext e1, m1, by simpa using h1, hk.ext e1, hE.ext e1⟩
      | false => exact iteF ⟨z, ρ, M1, R, E, hs.ext e1, m1, by simpa using h1, hk.ext e1, hE.ext e1⟩, hE⟩

/-! ### operators -/
def CMulX (i j : Int) : Prop := i.natAbs.log2 + j.natAbs.log2 < 1000000
def CDivX (_ j : Int) : Prop := j ≠ 0 ∧ j.natAbs.log2 < 9000
theorem op_fdivX : OpR X (binaryOp .FloorDiv) (rI CDivX fun i j => .int (i.fdiv j)) := opI fun i j _ _ _ _ _ hc q => floordiv_int hc.1 q (.inl (PyProof.noPylong_of_log2 hc.2))
theorem op_mulX : OpR X (binaryOp .Mult) (rI CMulX fun i j => .int (i * j)) := opI fun i j _ _ _ _ _ hc q => mul_int q (CMulW.ok (show CMulW i j from hc))
def addD : D → D → PD → MS → Prop
  | .int i, .int j, R, M => R (.int (i + j)) M
  | .tup a, .tup b, R, M => a.length + b.length ≤ sizeLine ∧ R (.tup (a ++ b)) M
  | .str a, .str b, R, M => a.length + b.length ≤ sizeLine ∧ R (.str (a ++ b)) M
  | x, y, R, M => ∃ a b, Ls M x a ∧ Ls M y b ∧ a.length + b.length ≤ sizeLine ∧ R (.lst (a ++ b)) M
theorem o_add : OpD X (binaryOp .Add) addD := by
  refine ⟨_, op_add.or (op_catA.or (op_add_str.or op_cat)), fun z H M x y vx vy R Q m rx ry h hc => ?_⟩
  unfold addD at h
  split at h
  · cases rx; cases ry
    exact .inl ⟨_, _, rfl, rfl, hc.here h m (.int _)⟩
  · rename_i a b
    cases rx with
    | tup sx ax =>
      cases ry with
      | tup sy ay =>
        refine .inr (.inl ⟨_, _, _, _, rfl, rfl, sx, sy, by rw [ax.length, ay.length]; exact h.1, fun z => ?_, fun z z2 => ?_, fun z z2 p hp => ?_⟩)
        · subst z; cases ax
          exact hc.here h.2 m (.tup sy ay)
        · subst z2; cases ay
          exact hc.here h.2 m (.tup sx (by rw [List.append_nil]; exact ax))
        · exact hc _ _ _ _ h.2 (relM_new m hp) (.tup (SqT.of upd_same) ((ext_new m hp).all (ax.append ay))) (ext_new m hp)
  · cases rx; cases ry
    exact .inr (.inr (.inl ⟨_, _, rfl, rfl, h.1, hc.here h.2 m (.str _)⟩))
  · obtain ⟨a, b, la, lb, hz, q⟩ := h
    obtain ⟨p1, vs, rfl, h1, r1⟩ := ls_at m la rx
    obtain ⟨p2, us, rfl, h2, r2⟩ := ls_at m lb ry
    exact .inr (.inr (.inr ⟨p1, p2, vs, us, rfl, rfl, h1, h2, by rw [r1.length, r2.length]; exact hz, fun p hp =>
      hc _ _ _ _ q (relM_new m hp) (.lst (fz_new m hp) ((ext_new m hp).all (r1.append r2))) (ext_new m hp)⟩))
def subD : D → D → PD → MS → Prop
  | .int i, .int j, R, M => R (.int (i - j)) M
  | _, _, _, _ => False
theorem o_sub : OpD X (binaryOp .Sub) subD := by
  refine ⟨_, op_sub, fun z H M x y vx vy R Q m rx ry h hc => ?_⟩
  unfold subD at h
  split at h
  · cases rx; cases ry
    exact ⟨_, _, rfl, rfl, hc.here h m (.int _)⟩
  · exact h.elim
def mulD : D → D → PD → MS → Prop
  | .int i, .int j, R, M => CMulX i j ∧ R (.int (i * j)) M
  | x, .int k, R, M => ∃ a, Ls M x a ∧ -(2 ^ 63) ≤ k ∧ k < 2 ^ 63 ∧ a.length * k.toNat ≤ sizeLine ∧ R (.lst (List.replicate k.toNat a).flatten) M
  | _, _, _, _ => False
theorem RelA.rep {K : ZK} {H : Hp} {M : MS} {vs : List V} {ds : List D} (r : RelA K H M vs ds) : ∀ k : Nat, RelA K H M (List.replicate k vs).flatten (List.replicate k ds).flatten
  | 0 => .nil
  | k + 1 => by
    rw [List.replicate_succ, List.replicate_succ, List.flatten_cons, List.flatten_cons]
    exact r.append (RelA.rep r k)
theorem o_mul : OpD X (binaryOp .Mult) mulD := by
  refine ⟨_, op_mulX.or op_rep, fun z H M x y vx vy R Q m rx ry h hc => ?_⟩
  unfold mulD at h
  split at h
  · cases rx; cases ry
    exact .inl ⟨_, _, rfl, rfl, h.1, hc.here h.2 m (.int _)⟩
  · obtain ⟨a, la, h1, h2, hz, q⟩ := h
    obtain ⟨p1, vs, rfl, e1, r1⟩ := ls_at m la rx
    cases ry
    exact .inr ⟨p1, _, vs, rfl, rfl, e1, h1, h2, by rw [r1.length]; exact hz, fun p hp => hc _ _ _ _ q (relM_new m hp) (.lst (fz_new m hp) ((ext_new m hp).all (r1.rep _))) (ext_new m hp)⟩
  · exact h.elim
def fdivD : D → D → PD → MS → Prop
  | .int i, .int j, R, M => CDivX i j ∧ R (.int (i.fdiv j)) M
  | _, _, _, _ => False
theorem o_fdiv : OpD X (binaryOp .FloorDiv) fdivD := by
  refine ⟨_, op_fdivX, fun z H M x y vx vy R Q m rx ry h hc => ?_⟩
  unfold fdivD at h
  split at h
  · cases rx; cases ry
    exact ⟨_, _, rfl, rfl, h.1, hc.here h.2 m (.int _)⟩
  · exact h.elim
def modD : D → D → PD → MS → Prop
  | .int i, .int j, R, M => j ≠ 0 ∧ R (.int (i.fmod j)) M
  | _, _, _, _ => False
theorem o_mod : OpD X (binaryOp .Mod) modD := by
  refine ⟨_, op_modN, fun z H M x y vx vy R Q m rx ry h hc => ?_⟩
  unfold modD at h
  split at h
  · cases rx; cases ry
    exact ⟨_, _, rfl, rfl, h.1, hc.here h.2 m (.int _)⟩
  · exact h.elim
def powD : D → D → PD → MS → Prop
  | .int i, .int j, R, M => CPow i j ∧ R (.int (i ^ j.toNat)) M
  | _, _, _, _ => False
theorem o_pow : OpD X (binaryOp .Pow) powD := by
  refine ⟨_, op_pow, fun z H M x y vx vy R Q m rx ry h hc => ?_⟩
  unfold powD at h
  split at h
  · cases rx; cases ry
    exact ⟨_, _, rfl, rfl, h.1, hc.here h.2 m (.int _)⟩
  · exact h.elim
def andD : D → D → PD → MS → Prop
  | .int i, .int j, R, M => R (.int (Builtin.bitAnd i j)) M
  | _, _, _, _ => False
theorem o_and : OpD X (binaryOp .BitAnd) andD := by
  refine ⟨_, op_and, fun z H M x y vx vy R Q m rx ry h hc => ?_⟩
  unfold andD at h
  split at h
  · cases rx; cases ry
    exact ⟨_, _, rfl, rfl, hc.here h m (.int _)⟩
  · exact h.elim

/-! ### comparisons -/
def iiD (f : Int → Int → Bool) : D → D → PD → MS → Prop
  | .int i, .int j, R, M => R (.bl (f i j)) M
  | _, _, _, _ => False
theorem o_ii {op : CmpOp} {f : Int → Int → Bool} (o : OpR X (compareOp op) (rI0 fun i j => .bl (f i j))) : OpD X (compareOp op) (iiD f) := by
  refine ⟨_, o, fun z H M x y vx vy R Q m rx ry h hc => ?_⟩
  unfold iiD at h
  split at h
  · cases rx; cases ry
    exact ⟨_, _, rfl, rfl, hc.here h m (.bl _)⟩
  · exact h.elim
abbrev ltD := iiD fun i j => decide (i < j)
abbrev leD := iiD fun i j => decide (i ≤ j)
abbrev gtD := iiD fun i j => decide (j < i)
abbrev geD := iiD fun i j => decide (j ≤ i)
theorem o_lt : OpD X (compareOp .Lt) ltD := o_ii op_lt
theorem o_le : OpD X (compareOp .LtE) leD := o_ii op_le
theorem o_gt : OpD X (compareOp .Gt) gtD := o_ii op_gt
theorem o_ge : OpD X (compareOp .GtE) geD := o_ii op_ge
/-- == -/
def eqG (f : Bool → Bool) (x y : D) (R : PD) (M : MS) : Prop := ∃ x' y', Sees M x x' ∧ Sees M y y' ∧ isP x' = true ∧ isP y' = true ∧ SeqAt.shaped (pd x') = true ∧ SeqAt.shaped (pd y') = true ∧ R (.bl (f (PyData.eqv (pd x') (pd y')))) M
def eqD (f : Bool → Bool) : D → D → PD → MS → Prop
  | .int i, .int j, R, M => R (.bl (f (decide (i = j)))) M
  | .str i, .str j, R, M => R (.bl (f (decide (i = j)))) M
  | .bl i, .bl j, R, M => R (.bl (f (decide (i = j)))) M
  | x, y, R, M => eqG f x y R M
theorem eqG_of {H : Hp} {M : MS} {x y : D} {vx vy : V} {R : PD} {Q : VK} {z : Hd} (m : RelM ⟨X.K, z⟩ H M) (rx : Rel ⟨X.K, z⟩ H M vx x) (ry : Rel ⟨X.K, z⟩ H M vy y) (h : eqG id x y R M) (hc : Cont ⟨X.K, z⟩ H M R Q) : rEqD X.K vx vy H Q := by
  obtain ⟨x', y', sx, sy, px, py, hx, hy, q⟩ := h
  exact ⟨_, _, dp_sees m sx px rx, dp_sees m sy py ry, hx, hy, hc.here q m (.bl _)⟩
theorem eqG_ne {H : Hp} {M : MS} {x y : D} {vx vy : V} {R : PD} {Q : VK} {z : Hd} (m : RelM ⟨X.K, z⟩ H M) (rx : Rel ⟨X.K, z⟩ H M vx x) (ry : Rel ⟨X.K, z⟩ H M vy y) (h : eqG (fun k => !k) x y R M) (hc : Cont ⟨X.K, z⟩ H M R Q) : rNeD X.K vx vy H Q := by
  obtain ⟨x', y', sx, sy, px, py, hx, hy, q⟩ := h
  exact ⟨_, _, dp_sees m sx px rx, dp_sees m sy py ry, hx, hy, hc.here q m (.bl _)⟩
theorem o_eq (hu : X.A.units + 64 < cLine) : OpD X (compareOp .Eq) (eqD id) := by
  refine ⟨_, op_eq.or (op_eqD hu), fun z H M x y vx vy R Q m rx ry h hc => ?_⟩
  unfold eqD at h
  split at h
  · cases rx; cases ry
    exact .inl ⟨rfl, hc.here (by simpa [V.int.injEq] using h) m (.bl _)⟩
  · cases rx; cases ry
    exact .inl ⟨rfl, hc.here (by simpa [V.str.injEq] using h) m (.bl _)⟩
  · cases rx; cases ry
    exact .inl ⟨rfl, hc.here (by simpa [V.bl.injEq] using h) m (.bl _)⟩
  · exact .inr (eqG_of m rx ry h hc)
theorem o_ne (hu : X.A.units + 64 < cLine) : OpD X (compareOp .NotEq) (eqD fun k => !k) := by
  refine ⟨_, op_ne.or (op_neD hu), fun z H M x y vx vy R Q m rx ry h hc => ?_⟩
  unfold eqD at h
  split at h
  · cases rx; cases ry
    exact .inl ⟨rfl, hc.here (by simpa [V.int.injEq] using h) m (.bl _)⟩
  · cases rx; cases ry
    exact .inl ⟨rfl, hc.here (by simpa [V.str.injEq] using h) m (.bl _)⟩
  · cases rx; cases ry
    exact .inl ⟨rfl, hc.here (by simpa [V.bl.injEq] using h) m (.bl _)⟩
  · exact .inr (eqG_ne m rx ry h hc)
/-- is None -/
def isNon : D → Bool
  | .non => true
  | _ => false
theorem isNon_of {K : ZK} {H : Hp} {M : MS} {v : V} {d : D} (r : Rel K H M v d) : decide (v = .non) = isNon d := by
  cases r <;> simp [isNon]
def isD (f : Bool → Bool) : D → D → PD → MS → Prop
  | x, .non, R, M => R (.bl (f (isNon x))) M
  | _, _, _, _ => False
theorem o_is : OpD X (compareOp .Is) (isD id) := by
  refine ⟨_, op_isN, fun z H M x y vx vy R Q m rx ry h hc => ?_⟩
  unfold isD at h
  split at h
  · cases ry
    exact ⟨rfl, by rw [isNon_of rx]; exact hc.here h m (.bl _)⟩
  · exact h.elim
theorem o_isnot : OpD X (compareOp .IsNot) (isD fun k => !k) := by
  refine ⟨_, op_notN, fun z H M x y vx vy R Q m rx ry h hc => ?_⟩
  unfold isD at h
  split at h
  · cases ry
    exact ⟨rfl, by rw [isNon_of rx]; exact hc.here h m (.bl _)⟩
  · exact h.elim
/-- -a -/
def UnD (X : Cx) (fop : Value → Sem Value) (f : D → PD → MS → Prop) : Prop :=
  ∃ r, UnR X fop r ∧ ∀ z H M x vx R Q, RelM ⟨X.K, z⟩ H M → Rel ⟨X.K, z⟩ H M vx x → f x R M → Cont ⟨X.K, z⟩ H M R Q → r vx H Q
def dUn (f : D → PD → MS → Prop) (ta : DTE) : DTE := fun ρ R E M => ta ρ (fun x M1 => f x R M1) E M
theorem de_un {op : UnaryOp} {f : D → PD → MS → Prop} (o : UnD X (unaryOp op) f) (ha : DE X W a ta) : DE X W (.UnaryOp op a pos) (dUn f ta) := by
  obtain ⟨r, ho, ad⟩ := o
  exact imp (pe_un ho ha) fun σ H Q ⟨z, ρ, M, R, E, hs, hm, h, hc, hE⟩ =>
    ⟨z, ρ, M, _, E, hs, hm, h, fun x M1 vx H1 h1 m1 r1 e1 => ad _ _ _ _ _ _ _ m1 r1 h1 (hc.ext e1), hE⟩
def negD : D → PD → MS → Prop
  | .int i, R, M => R (.int (-i)) M
  | _, _, _ => False
theorem o_neg : UnD X (unaryOp .USub) negD := by
  refine ⟨_, un_neg, fun z H M x vx R Q m rx h hc => ?_⟩
  unfold negD at h
  split at h
  · cases rx
    exact ⟨_, rfl, hc.here h m (.int _)⟩
  · exact h.elim

/-! ### items, slices -/
def itD (ds : List D) (i : Int) (R : PD) (M : MS) : Prop := match atI ds i with
  | some d => R d M
  | none => False
def ixD : D → D → PD → MS → Prop
  | .tup ds, .int i, R, M => itD ds i R M
  | .lst ds, .int i, R, M => itD ds i R M
  | .str x, .int i, R, M => x.length ≤ sizeLine ∧ match atI x.cps.toList i with
    | some c => R (.str ⟨#[c]⟩) M
    | none => False
  | .ref a, .int i, R, M => ∃ ds, M a = some (.lst ds) ∧ itD ds i R M
  | _, _, _, _ => False
theorem RelA.at {K : ZK} {H : Hp} {M : MS} {vs : List V} {ds : List D} (r : RelA K H M vs ds) {i : Int} {d : D} (h : atI ds i = some d) : ∃ v, atI vs i = some v ∧ Rel K H M v d := by
  unfold atI at h ⊢
  rw [r.length]
  cases q : ixN ds.length i with
  | none => rw [q] at h; cases h
  | some j =>
    rw [q] at h
    exact r.get h
theorem itD_of {K : ZK} {H : Hp} {M : MS} {vs : List V} {ds : List D} {i : Int} {R : PD} {Q : VK} (m : RelM K H M) (r : RelA K H M vs ds) (h : itD ds i R M) (hc : Cont K H M R Q) : ∃ v, atI vs i = some v ∧ Q v H := by
  unfold itD at h
  split at h
  · next d e =>
    obtain ⟨v, e1, r1⟩ := r.at e
    exact ⟨v, e1, hc.here h m r1⟩
  · exact h.elim
def dIx (ta tb : DTE) : DTE := dOp ixD ta tb
theorem de_ix (ha : DE X W a ta) (hb : DE X W b tb) (hs : PlainIx b := by exact fun _ _ => rfl) : DE X W (.Subscript a b pos) (dIx ta tb) :=
  imp (pe_ix ix_seq ha hb hs) fun σ H Q ⟨z, ρ, M, R, E, hs, hm, h, hc, hE⟩ =>
    ⟨z, ρ, M, _, E, hs, hm, h, fun x M1 vx H1 h1 m1 r1 e1 => ⟨z, ρ, M1, _, E, hs.ext e1, m1, h1, fun y M2 vy H2 h2 m2 r2 e2 => by
      have rx := e2 _ _ r1
      have hc2 := hc.ext (e1.trans e2)
      have h2 : ixD x y R M2 := h2
      unfold ixD at h2
      split at h2
      · cases r2
        cases rx with
        | tup s ra =>
          obtain ⟨v, e3, q⟩ := itD_of m2 ra h2 hc2
          exact .inr (.inl ⟨_, _, _, v, rfl, rfl, s, e3, q⟩)
      · cases r2
        cases rx with
        | lst s ra =>
          obtain ⟨v, e3, q⟩ := itD_of m2 ra h2 hc2
          exact .inl ⟨_, _, _, v, rfl, rfl, s.sq, e3, q⟩
      · cases r2; cases rx
        obtain ⟨hz, h3⟩ := h2
        split at h3
        · next c ec => exact .inr (.inr ⟨_, _, c, rfl, rfl, hz, ec, hc2.here h3 m2 (.str _)⟩)
        · exact h3.elim
      · cases r2; cases rx
        obtain ⟨ds, ea, h3⟩ := h2
        obtain ⟨vs, q1, ra⟩ := m2.at' _ _ ea
        obtain ⟨v, e3, q⟩ := itD_of m2 ra h3 hc2
        exact .inl ⟨_, _, _, v, rfl, rfl, SqL.of q1, e3, q⟩
      · exact h2.elim, hE.ext e1⟩, hE⟩
def dNoPart : DTO := fun _ R _ M => R none M
def dPart (t : DTE) : DTO := fun ρ R E M => t ρ (fun d M1 => match d with | .int i => R (some i) M1 | _ => False) E M
theorem do_none : DO X W none dNoPart := impO po_none fun σ H Q ⟨z, ρ, M, R, E, hs, hm, h, hc, hE⟩ => hc _ _ _ h hm Ext.refl
theorem do_some (h : DE X W e te) : DO X W (some e) (dPart te) :=
  impO (po_some h) fun σ H Q ⟨z, ρ, M, R, E, hs, hm, h, hc, hE⟩ =>
    ⟨z, ρ, M, _, E, hs, hm, h, fun d M1 v H1 h1 m1 r1 e1 => by
      cases d with
      | int i => cases r1; exact ⟨i, rfl, hc _ _ _ h1 m1 e1⟩
      | _ => exact h1.elim, hE⟩
def cut {α : Type} (xs : List α) (lo hi : Option Int) : List α := (xs.drop (HT.sIx xs.length 0 lo)).take (HT.sIx xs.length xs.length hi - HT.sIx xs.length 0 lo)
theorem RelA.cut {K : ZK} {H : Hp} {M : MS} {vs : List V} {ds : List D} (r : RelA K H M vs ds) (lo hi : Option Int) : RelA K H M (cutV vs lo hi) (DL.cut ds lo hi) := by
  unfold cutV DL.cut
  rw [r.length]
  exact (r.drop _).take _
theorem cut_whole {α : Type} {xs : List α} {lo hi : Option Int} (h : HT.sIx xs.length 0 lo = 0 ∧ HT.sIx xs.length xs.length hi = xs.length) : cut xs lo hi = xs := by
  unfold cut
  rw [h.1, h.2, List.drop_zero, Nat.sub_zero, List.take_length]
def slD : D → Option Int → Option Int → PD → MS → Prop
  | .tup ds, lo, hi, R, M => R (.tup (cut ds lo hi)) M
  | .lst ds, lo, hi, R, M => R (.lst (cut ds lo hi)) M
  | .scr ns, lo, hi, R, M => R (.lst ((cut ns lo hi).map D.int)) M
  | .ref a, lo, hi, R, M => ∃ ds, M a = some (.lst ds) ∧ R (.lst (cut ds lo hi)) M
  | _, _, _, _, _ => False
theorem cutV_map (ns : List Int) (lo hi : Option Int) : cutV (ns.map V.int) lo hi = (cut ns lo hi).map V.int := by
  unfold cutV cut
  rw [List.length_map, List.map_take, List.map_drop]
def dSl (ta : DTE) (tl th : DTO) : DTE := fun ρ R E M => ta ρ (fun x M1 => tl ρ (fun lo M2 => th ρ (fun hi M3 => slD x lo hi R M3) E M2) E M1) E M
theorem de_slice {lo hi : Option Expr} {p2 : Pos} {tl th : DTO} (ha : DE X W a ta) (hl : DO X W lo tl) (hh : DO X W hi th) : DE X W (.Subscript a (.Slice lo hi none p2) pos) (dSl ta tl th) :=
  imp (pe_slice (sl_list.or sl_tupA) ha hl hh) fun σ H Q ⟨z, ρ, M, R, E, hs, hm, h, hc, hE⟩ =>
    ⟨z, ρ, M, _, E, hs, hm, h, fun x M1 vx H1 h1 m1 r1 e1 => ⟨z, ρ, M1, _, E, hs.ext e1, m1, h1, fun lo M2 H2 h2 m2 e2 => ⟨z, ρ, M2, _, E, hs.ext (e1.trans e2), m2, h2, fun hi M3 H3 h3 m3 e3 => by
      have rx := (e2.trans e3) _ _ r1
      have hc2 := hc.ext (e1.trans (e2.trans e3))
      have h3 : slD x lo hi R M3 := h3
      unfold slD at h3
      split at h3
      · cases rx with
        | tup s ra =>
          refine .inr ⟨_, _, rfl, s, fun z => hc2.here h3 m3 ?_, fun z p hp => hc2 _ _ _ _ h3 (relM_new m3 hp) (.tup (SqT.of upd_same) ((ext_new m3 hp).all (ra.cut _ _))) (ext_new m3 hp)⟩
          rw [ra.length] at z
          rw [cut_whole z]
          exact .tup s ra
      · cases rx with
        | lst s ra => exact .inl ⟨_, _, rfl, s.sq, fun p hp => hc2 _ _ _ _ h3 (relM_new m3 hp) (.lst (fz_new m3 hp) ((ext_new m3 hp).all (ra.cut _ _))) (ext_new m3 hp)⟩
      · cases rx with
        | scr s => exact .inl ⟨_, _, rfl, s.sq, fun p hp => hc2 _ _ _ _ h3 (relM_new m3 hp) (.lst (fz_new m3 hp) (by rw [cutV_map]; exact relA_ints)) (ext_new m3 hp)⟩
      · cases rx
        obtain ⟨ds, ea, h4⟩ := h3
        obtain ⟨vs, q1, ra⟩ := m3.at' _ _ ea
        exact .inl ⟨_, _, rfl, SqL.of q1, fun p hp => hc2 _ _ _ _ h4 (relM_new m3 hp) (.lst (fz_new m3 hp) ((ext_new m3 hp).all (ra.cut _ _))) (ext_new m3 hp)⟩
      · exact h3.elim, hE.ext (e1.trans e2)⟩, hE.ext e1⟩, hE⟩
end
end L2.DL
/-! DLd: targets, statements, loops, comprehensions -/
namespace L2.DL
open PySem PySem.Spec PyProof.Rows
variable [Tbs]

theorem ofT {A B : Prop} (h : if true = true then A else B) : A := by rwa [if_pos rfl] at h
theorem ofF {A B : Prop} (h : if false = true then A else B) : B := by rwa [if_neg Bool.false_ne_true] at h
/-! ### targets -/
inductive Pat where
  | nm (i : Nat)
  | tp (ps : List Pat)
mutual
def patW : Pat → D → Sl → (Sl → MS → Prop) → MS → Prop
  | .nm i, d, ρ, k, M => k (ρ.set i (some d)) M
  | .tp ps, .tup ds, ρ, k, M => patsW ps ds ρ k M
  | .tp ps, .lst ds, ρ, k, M => patsW ps ds ρ k M
  | _, _, _, _, _ => False
def patsW : List Pat → List D → Sl → (Sl → MS → Prop) → MS → Prop
  | [], [], ρ, k, M => k ρ M
  | p :: ps, d :: ds, ρ, k, M => patW p d ρ (fun ρ1 M1 => patsW ps ds ρ1 k M1) M
  | _, _, _, _, _ => False
end
mutual
def Pat.ns : Pat → List Nat
  | .nm i => [i]
  | .tp ps => Pat.nss ps
def Pat.nss : List Pat → List Nat
  | [] => []
  | p :: ps => p.ns ++ Pat.nss ps
end
/-- slots but those of l are as they were -/
def Off (l : List Nat) (σ σ' : St) : Prop := σ'.length = σ.length ∧ ∀ i, i ∉ l → σ'[i]? = σ[i]?
theorem Off.refl (l : List Nat) (σ : St) : Off l σ σ := ⟨rfl, fun _ _ => rfl⟩
theorem Off.set (σ : St) (i : Nat) (v : Option V) : Off [i] σ (σ.set i v) := ⟨List.length_set .., fun j h => by
  rw [List.getElem?_set_ne (by intro z; exact h (by simp [z]))]⟩
theorem Off.trans {l m : List Nat} {a b c : St} (h : Off l a b) (k : Off m b c) : Off (l ++ m) a c := ⟨k.1.trans h.1, fun i hi => by
  rw [List.mem_append, not_or] at hi
  exact (k.2 i hi.2).trans (h.2 i hi.1)⟩
theorem wipe_at {σ : St} {i : Nat} : ∀ {vs : List Nat}, i ∈ vs → i < σ.length → (L2.wipe σ vs)[i]? = some none
  | v :: vs, h, hl => by
    unfold L2.wipe
    by_cases e : v = i
    · subst e
      rw [List.getElem?_set_self (by rw [L2.wipe_length]; exact hl)]
    · rw [List.getElem?_set_ne e]
      exact wipe_at (by simpa [Ne.symm e] using h) hl
theorem wipe_off {σ : St} {i : Nat} : ∀ {vs : List Nat}, i ∉ vs → (L2.wipe σ vs)[i]? = σ[i]?
  | [], _ => rfl
  | v :: vs, h => by
    unfold L2.wipe
    rw [List.mem_cons, not_or] at h
    rw [List.getElem?_set_ne (Ne.symm h.1)]
    exact wipe_off h.2
theorem Off.wipe {l vs : List Nat} {σ σ' : St} (h : Off l (L2.wipe σ vs) σ') (hl : ∀ i ∈ l, i ∈ vs) : L2.wipe σ' vs = L2.wipe σ vs := by
  have hlen : σ'.length = σ.length := by rw [h.1, L2.wipe_length]
  apply List.ext_getElem?
  intro i
  by_cases hi : i ∈ vs
  · by_cases hb : i < σ.length
    · rw [wipe_at hi (by rw [hlen]; exact hb), wipe_at hi hb]
    · rw [List.getElem?_eq_none (by rw [L2.wipe_length, hlen]; omega), List.getElem?_eq_none (by rw [L2.wipe_length]; omega)]
  · rw [wipe_off hi, h.2 i fun z => hi (hl i z)]
def liftG (F : PySem.W.Frag) (p : Pat) : TG := fun v σ H Q => ∃ (z : Hd) (d : D) (ρ : Sl) (M : MS) (k : Sl → MS → Prop), Rel ⟨F, z⟩ H M v d ∧ RelS ⟨F, z⟩ H M σ ρ ∧ RelM ⟨F, z⟩ H M ∧ patW p d ρ k M ∧ ∀ ρ' σ', k ρ' M → RelS ⟨F, z⟩ H M σ' ρ' → Off p.ns σ σ' → Q σ' H
def liftGs (F : PySem.W.Frag) (ps : List Pat) : TGs := fun vs σ H Q => ∃ (z : Hd) (ds : List D) (ρ : Sl) (M : MS) (k : Sl → MS → Prop), RelA ⟨F, z⟩ H M vs ds ∧ RelS ⟨F, z⟩ H M σ ρ ∧ RelM ⟨F, z⟩ H M ∧ patsW ps ds ρ k M ∧ ∀ ρ' σ', k ρ' M → RelS ⟨F, z⟩ H M σ' ρ' → Off (Pat.nss ps) σ σ' → Q σ' H
abbrev DG (X : Cx) (e : Expr) (p : Pat) : Prop := PG X e (liftG X.K p)
abbrev DGs (X : Cx) (es : List Expr) (ps : List Pat) : Prop := PGs X es (liftGs X.K ps)
theorem impG {X : Cx} {e : Expr} {t u : TG} (h : PG X e t) (hi : ∀ v σ H Q, u v σ H Q → t v σ H Q) : PG X e u := ⟨fun pins s σ H v w Q I r q => h.run pins s σ H v w Q I r (hi v σ H Q q)⟩
theorem impGs {X : Cx} {es : List Expr} {t u : TGs} (h : PGs X es t) (hi : ∀ vs σ H Q, u vs σ H Q → t vs σ H Q) : PGs X es u := ⟨fun pins s σ H v w Q I r q => h.run pins s σ H v w Q I r (hi v σ H Q q)⟩
theorem orG {X : Cx} {e : Expr} {t u : TG} (h : PG X e t) (h' : PG X e u) : PG X e (fun v σ H Q => t v σ H Q ∨ u v σ H Q) := ⟨fun pins s σ H v w Q I r q => by
  rcases q with q | q
  · exact h.run pins s σ H v w Q I r q
  · exact h'.run pins s σ H v w Q I r q⟩
section
variable {X : Cx} {W : WX} {e : Expr} {es : List Expr} {p : Pat} {ps : List Pat} {pos : Pos}
theorem dg_nm (i : Nat) {x : Str} (hN : X.N.Nodup) (hi : X.N[i]? = some x := by rfl) (hx : Loc X.env.scope x := by first | exact Or.inl rfl | exact Or.inr rfl) (hf : X.fn x = true ∨ X.env.scope.names.lookup x = some .local := by first | exact .inl rfl | exact .inr rfl) : DG X (.Name x pos) (.nm i) :=
  impG (pg_name hN hi hx hf) fun v σ H Q ⟨z, d, ρ, M, k, r, hs, hm, h, hc⟩ => hc _ _ h (hs.set i r) (Off.set σ i (some v))
theorem dgs_nil : DGs X [] [] := impGs pgs_nil fun vs σ H Q ⟨z, ds, ρ, M, k, r, hs, hm, h, hc⟩ => by
  cases r with
  | nil => exact ⟨rfl, hc _ _ h hs (Off.refl _ _)⟩
  | cons a b => exact (show False from h).elim
theorem dgs_cons (h1 : DG X e p) (h2 : DGs X es ps) (hs : (assignEach (e :: es) X.env).map (·.2) = assign e X.env :: (assignEach es X.env).map (·.2) := by rfl) : DGs X (e :: es) (p :: ps) :=
  impGs (pgs_cons h1 h2 hs) fun vs σ H Q ⟨z, ds, ρ, M, k, r, hs, hm, h, hc⟩ => by
    cases r with
    | nil => exact (show False from h).elim
    | cons a b =>
      exact ⟨_, _, rfl, z, _, ρ, M, _, a, hs, hm, h, fun ρ' σ' h' hs' o => ⟨z, _, ρ', M, k, b, hs', hm, h', fun ρ2 σ2 h2 hs2 o2 => hc ρ2 σ2 h2 hs2 (o.trans o2)⟩⟩
theorem patsW_len {M : MS} : ∀ {ps : List Pat} {ds : List D} {ρ : Sl} {k : Sl → MS → Prop} (_ : patsW ps ds ρ k M) (_ : ∀ ρ', k ρ' M → True), True := fun _ _ => trivial
theorem dg_tup {n : Nat} {j : Nat} (hc : X.calm = true) (h : DGs X es ps) (hl : ∀ ds ρ k M, patsW ps ds ρ k M → ds.length = n)
    (hn : (assignEach es X.env).length = n := by rfl) (hst : (assignEach es X.env).findIdx? (·.1) = none := by rfl) : DG X (.Tuple es j pos) (.tp ps) :=
  impG (orG (pg_tup hc h hn hst) (pg_unl hc h hn hst)) fun v σ H Q ⟨z, d, ρ, M, k, r, hs, hm, h, hc⟩ => by
    cases r with
    | tup s ra =>
      have h : patsW ps _ ρ k M := h
      exact .inl ⟨_, _, rfl, s, by rw [ra.length]; exact hl _ _ _ _ h, z, _, ρ, M, k, ra, hs, hm, h, hc⟩
    | lst s ra =>
      have h : patsW ps _ ρ k M := h
      exact .inr ⟨_, _, rfl, s.sq, by rw [ra.length]; exact hl _ _ _ _ h, z, _, ρ, M, k, ra, hs, hm, h, hc⟩
    | _ => exact (show False from h).elim
end
theorem pl0 : ∀ ds ρ k M, patsW [] ds ρ k M → ds.length = 0
  | [], _, _, _, _ => rfl
  | _ :: _, _, _, _, h => (show False from h).elim

/-! ### statements -/
section
variable {X : Cx} {W : WX} {a b c e : Expr} {te : DTE} {tA : DTT} {st : Stmt} {sts bs cs : List Stmt} {t u : DTS} {pos : Pos}
def dNext : DTS := fun De ρ M => De.nx ρ M
def dSeq (t u : DTS) : DTS := fun De ρ M => t { De with nx := u De } ρ M
theorem dss_nil : DSs X W [] dNext := impSs pss_nil fun De σ H ⟨z, ρ, M, Dd, hs, hm, h, L⟩ => L.nx _ _ _ _ h hm hs Ext.refl
theorem dss_cons (h1 : DS X W st t) (h2 : DSs X W sts u) : DSs X W (st :: sts) (dSeq t u) :=
  impSs (pss_cons h1 h2) fun De σ H ⟨z, ρ, M, Dd, hs, hm, h, L⟩ =>
    ⟨z, ρ, M, _, hs, hm, h, fun ρ' M' σ' H' q m s e => ⟨z, ρ', M', Dd, s, m, q, L.ext e⟩, L.rt, L.bk, L.ct, L.ex⟩
theorem dss_one (h1 : DS X W st t) : DSs X W [st] t := pss_one h1
theorem ds_pass : DS X W (.Pass pos) dNext := impS ps_pass fun De σ H ⟨z, ρ, M, Dd, hs, hm, h, L⟩ => L.nx _ _ _ _ h hm hs Ext.refl
def dBreak : DTS := fun De ρ M => De.bk ρ M
def dCont : DTS := fun De ρ M => De.ct ρ M
theorem ds_break : DS X W (.Break pos) dBreak := impS ps_break fun De σ H ⟨z, ρ, M, Dd, hs, hm, h, L⟩ => L.bk _ _ _ _ h hm hs Ext.refl
theorem ds_cont : DS X W (.Continue pos) dCont := impS ps_continue fun De σ H ⟨z, ρ, M, Dd, hs, hm, h, L⟩ => L.ct _ _ _ _ h hm hs Ext.refl
def dNever : DTS := fun _ _ _ => False
theorem ds_never : DS X W st dNever := impS ps_never fun De σ H ⟨z, ρ, M, Dd, hs, hm, h, L⟩ => h
def dExpr (te : DTE) : DTS := fun De ρ M => te ρ (fun _ M1 => De.nx ρ M1) De.ex M
theorem ds_expr (he : DE X W e te) (hs : swapsWith e none pos.line X.env = pure false := by rfl) : DS X W (.Expr e pos) (dExpr te) :=
  impS (ps_expr he hs) fun De σ H ⟨z, ρ, M, Dd, hs, hm, h, L⟩ =>
    ⟨z, ρ, M, _, _, hs, hm, h, fun d M1 v H1 h1 m1 r1 e1 => L.nx _ _ _ _ h1 m1 (hs.ext e1) e1, L.ex⟩
def dRet (te : DTE) : DTS := fun De ρ M => te ρ De.rt De.ex M
theorem ds_ret (he : DE X W e te) : DS X W (.Return (some e) pos) (dRet te) :=
  impS (ps_ret he) fun De σ H ⟨z, ρ, M, Dd, hs, hm, h, L⟩ => ⟨z, ρ, M, _, _, hs, hm, h, L.rt, L.ex⟩
def dRetN : DTS := fun De _ M => De.rt .non M
theorem ds_retN : DS X W (.Return none pos) dRetN := impS ps_retN fun De σ H ⟨z, ρ, M, Dd, hs, hm, h, L⟩ => L.rt.here h hm .non
def dIfS (tA : DTT) (t u : DTS) : DTS := fun De ρ M => tA ρ (fun k M1 => if k = true then t De ρ M1 else u De ρ M1) De.ex M
theorem ds_if (hc : DT X W c tA) (ha : DSs X W bs t) (hb : DSs X W cs u) : DS X W (.If c bs cs pos) (dIfS tA t u) :=
  impS (ps_if hc ha hb) fun De σ H ⟨z, ρ, M, Dd, hs, hm, h, L⟩ =>
    ⟨z, ρ, M, _, _, hs, hm, h, fun k M1 H1 h1 m1 e1 => by
      cases k with
      | true => exact iteT ⟨z, ρ, M1, Dd, hs.ext e1, m1, by simpa using h1, L.ext e1⟩
      | false => exact iteF ⟨z, ρ, M1, Dd, hs.ext e1, m1, by simpa using h1, L.ext e1⟩, L.ex⟩
def dSet (i : Nat) (te : DTE) : DTS := fun De ρ M => te ρ (fun d M1 => De.nx (ρ.set i (some d)) M1) De.ex M
theorem ds_set (i : Nat) {x : Str} {pos' : Pos} (hN : X.N.Nodup) (he : DE X W e te) (hi : X.N[i]? = some x := by rfl) (hx : Loc X.env.scope x := by first | exact Or.inl rfl | exact Or.inr rfl) (hs : swapsWith e (some (.Name x pos')) pos.line X.env = pure false := by rfl)
    (hf : X.fn x = true ∨ X.env.scope.names.lookup x = some .local := by first | exact .inl rfl | exact .inr rfl) : DS X W (.Assign [.Name x pos'] e pos) (dSet i te) :=
  impS (ps_set hN hi hx he hs hf) fun De σ H ⟨z, ρ, M, Dd, hs, hm, h, L⟩ =>
    ⟨z, ρ, M, _, _, hs, hm, h, fun d M1 v H1 h1 m1 r1 e1 => L.nx _ _ _ _ h1 m1 ((hs.ext e1).set i r1) e1, L.ex⟩
/-- several targets out of one value -/
def dAsg (p : Pat) (te : DTE) : DTS := fun De ρ M => te ρ (fun d M1 => patW p d ρ De.nx M1) De.ex M
theorem ds_asg {tg : Expr} {p : Pat} (he : DE X W e te) (hg : DG X tg p) (hs : swapsWithSole [tg] e pos.line X.env = pure false := by rfl) (hw : swappedStores [tg] e X.env = pure none := by rfl)
    (h1 : (assignEach [tg] X.env).map (·.2) = [assign tg X.env] := by rfl) : DS X W (.Assign [tg] e pos) (dAsg p te) :=
  impS (ps_asg he hg hs hw h1) fun De σ H ⟨z, ρ, M, Dd, hs, hm, h, L⟩ =>
    ⟨z, ρ, M, _, _, hs, hm, h, fun d M1 v H1 h1 m1 r1 e1 => ⟨z, d, ρ, M1, Dd.nx, r1, hs.ext e1, m1, h1, fun ρ' σ' q s _ => L.nx _ _ _ _ q m1 s e1⟩, L.ex⟩
/-- a, b = x, y -/
def dPar (i j : Nat) (ta : DTA) : DTS := fun De ρ M => ta ρ (fun ds M1 => match ds with | [x, y] => De.nx ((ρ.set i (some x)).set j (some y)) M1 | _ => False) De.ex M
theorem ds_par (i j : Nat) {x y : Str} {px py pt pt2 : Pos} {kt k2 : Nat} {ta : DTA} (hc : X.calm = true) (hN : X.N.Nodup) (ha : DA X W [a, b] ta) (hi : X.N[i]? = some x := by rfl) (hj : X.N[j]? = some y := by rfl) (hij : i ≠ j := by decide)
    (hx : X.env.scope.names.lookup x = some .local := by rfl) (hy : X.env.scope.names.lookup y = some .local := by rfl)
    (hw : swappedStores [.Tuple [.Name x px, .Name y py] kt pt] (.Tuple [a, b] k2 pt2) X.env = pure (some [x, y]) := by rfl)
    (hs : swapsWithSole [.Tuple [.Name x px, .Name y py] kt pt] (.Tuple [a, b] k2 pt2) pos.line X.env = pure false := by rfl) :
    DS X W (.Assign [.Tuple [.Name x px, .Name y py] kt pt] (.Tuple [a, b] k2 pt2) pos) (dPar i j ta) :=
  impS (ps_par hc hN hi hj hij hx hy ha hw hs) fun De σ H ⟨z, ρ, M, Dd, hs, hm, h, L⟩ =>
    ⟨z, ρ, M, _, _, hs, hm, h, fun ds M1 vs H1 h1 m1 r1 e1 => by
      cases r1 with
      | nil => exact (show False from h1).elim
      | cons a1 r1 =>
        cases r1 with
        | nil => exact (show False from h1).elim
        | cons a2 r1 =>
          cases r1 with
          | nil => exact ⟨_, _, rfl, L.nx _ _ _ _ h1 m1 (((hs.ext e1).set i a1).set j a2) e1⟩
          | cons a3 r1 => exact (show False from h1).elim, L.ex⟩
/-- a op= b at a name -/
def PIpD (X : Cx) (op : Operator) (f : D → D → PD → MS → Prop) : Prop :=
  ∃ r, PIp X op r ∧ ∀ z H M x y vx vy R Q, RelM ⟨X.K, z⟩ H M → Rel ⟨X.K, z⟩ H M vx x → Rel ⟨X.K, z⟩ H M vy y → f x y R M → Cont ⟨X.K, z⟩ H M R Q → r vx vy H Q
def dAug (i : Nat) (te : DTE) (f : D → D → PD → MS → Prop) : DTS := fun De ρ M => match sl ρ i with
  | some x => te ρ (fun y M1 => f x y (fun d M2 => De.nx (ρ.set i (some d)) M2) M1) De.ex M
  | none => False
theorem ds_aug (i : Nat) {x : Str} {op : Operator} {f : D → D → PD → MS → Prop} {pos' : Pos} (hN : X.N.Nodup) (he : DE X W e te) (ho : PIpD X op f) (hi : X.N[i]? = some x := by rfl) (hx : Loc X.env.scope x := by first | exact Or.inl rfl | exact Or.inr rfl)
    (hf : X.fn x = true ∨ X.env.scope.names.lookup x = some .local := by first | exact .inl rfl | exact .inr rfl) : DS X W (.AugAssign (.Name x pos') op e pos) (dAug i te f) := by
  obtain ⟨r, hr, ad⟩ := ho
  exact impS (ps_aug hN hi hx he hr hf) fun De σ H ⟨z, ρ, M, Dd, hs, hm, h, L⟩ => by
    have h : (match sl ρ i with
      | some x => te ρ (fun y M1 => f x y (fun d M2 => Dd.nx (ρ.set i (some d)) M2) M1) Dd.ex M
      | none => False) := h
    cases q : sl ρ i with
    | none => rw [q] at h; exact h.elim
    | some d =>
      rw [q] at h
      obtain ⟨v, e1, r1⟩ := hs.2 i d (sl_get q)
      exact ⟨v, e1, z, ρ, M, _, _, hs, hm, h, fun y M1 vy H1 h1 m1 r2 e2 => ad _ _ _ _ _ _ _ _ _ m1 (e2 _ _ r1) r2 h1 fun d' M2 v' H2 h2 m2 r3 e3 => L.nx _ _ _ _ h2 m2 ((hs.ext (e2.trans e3)).set i r3) (e2.trans e3), L.ex⟩
def augI (f : Int → Int → Int) : D → D → PD → MS → Prop
  | .int i, .int j, R, M => R (.int (f i j)) M
  | _, _, _, _ => False
theorem a_ii {op : Operator} {f : Int → Int → Int} (h : PIp X op (ipI f)) : PIpD X op (augI f) := by
  refine ⟨_, h, fun z H M x y vx vy R Q m rx ry h hc => ?_⟩
  unfold augI at h
  split at h
  · cases rx; cases ry
    exact ⟨_, _, rfl, rfl, hc.here h m (.int _)⟩
  · exact h.elim
theorem a_add : PIpD X .Add (augI fun i j => i + j) := a_ii ip_add
theorem a_sub : PIpD X .Sub (augI fun i j => i - j) := a_ii ip_sub

/-- o[i] = e -/
def setLD : D → D → D → (MS → Prop) → MS → Prop
  | .ref a, .int k, d, R, M => ∃ ds j, M a = some (.lst ds) ∧ ixN ds.length k = some j ∧ R (um M a (.lst (ds.set j d)))
  | _, _, _, _, _ => False
def dSub (te to ti : DTE) : DTS := fun De ρ M => te ρ (fun d M1 => to ρ (fun o M2 => ti ρ (fun i M3 => setLD o i d (fun M4 => De.nx ρ M4) M3) De.ex M2) De.ex M1) De.ex M
theorem ds_sub {o i : Expr} {to ti : DTE} {pt : Pos} (he : DE X W e te) (ho : DE X W o to) (hi : DE X W i ti) (hs : swapsWithSole [.Subscript o i pt] e pos.line X.env = pure false := by rfl) (hw : swappedStores [.Subscript o i pt] e X.env = pure none := by rfl)
    (h1 : (assignEach [.Subscript o i pt] X.env).map (·.2) = [assign (.Subscript o i pt) X.env] := by rfl)
    (ha : ∀ v, assign (.Subscript o i pt) X.env v = (do
      let ov ← holding [v] (eval o X.env)
      let iv ← holding [v, ov] (eval i X.env)
      standAt pt
      holding [v, ov, iv] (setItem ov iv v)
      release [v, ov, iv] []) := by intro _; rfl) : DS X W (.Assign [.Subscript o i pt] e pos) (dSub te to ti) :=
  impS (ps_asg he (pg_sub ho hi set_list ha) hs hw h1) fun De σ H ⟨z, ρ, M, Dd, hs, hm, h, L⟩ =>
    ⟨z, ρ, M, _, _, hs, hm, h, fun d M1 v H1 h1 m1 r1 e1 => ⟨z, ρ, M1, _, _, hs.ext e1, m1, h1, fun oo M2 vo H2 h2 m2 r2 e2 =>
      ⟨z, ρ, M2, _, _, hs.ext (e1.trans e2), m2, h2, fun ii M3 vi H3 h3 m3 r3 e3 => by
        have ro := e3 _ _ r2
        have rd := (e2.trans e3) _ _ r1
        cases oo with
        | ref a =>
          cases ii with
          | int k =>
            cases ro; cases r3
            obtain ⟨ds, j, ea, ej, q⟩ := h3
            obtain ⟨vs, eh, ra⟩ := m3.at' _ _ ea
            have w : Ext ⟨X.K, z⟩ H3 M3 (upd H3 a (.lst (vs.set j v))) (um M3 a (.lst (ds.set j d))) := ext_write m3 ea
            exact ⟨_, vs, _, j, rfl, rfl, eh, by rw [ra.length]; exact ej, L.nx _ _ _ _ q (relM_write m3 ea ⟨_, upd_same, w.all (ra.set rd j)⟩) ((hs.ext (e1.trans (e2.trans e3))).ext w) (e1.trans (e2.trans (e3.trans w)))⟩
          | _ => exact (show False from h3).elim
        | _ => exact (show False from h3).elim, (L.ext (e1.trans e2)).ex⟩, (L.ext e1).ex⟩, L.ex⟩
end

/-! ### what is walked -/
abbrev DTI := Sl → (List D → MS → Prop) → XP → MS → Prop
/-- what is hidden stays hidden -/
def HidLe (K K' : ZK) : Prop := K'.K = K.K ∧ ∀ a vs, K.hid a = some vs → K'.hid a = some vs
theorem HidLe.refl (K : ZK) : HidLe K K := ⟨rfl, fun _ _ h => h⟩
structure ItOk (K : ZK) (J : It) (items : List D) (H : Hp) (M : MS) : Prop where
  go : ∀ K' i H' M', HidLe K K' → i < items.length → RelM K' H' M' → ExtX K H M K' H' M' → J.go i H'
  stop : ∀ K' H' M', HidLe K K' → RelM K' H' M' → ExtX K H M K' H' M' → J.stop items.length H'
  yld : ∀ K' i x H' M' H'', HidLe K K' → i < items.length → RelM K' H' M' → ExtX K H M K' H' M' → J.yld i H' x H'' → ∃ d, items[i]? = some d ∧ Rel K' H'' M' x d ∧ RelM K' H'' M' ∧ Ext K' H' M' H'' M'
def liftI (F : PySem.W.Frag) (W : WX) (t : DTI) : TI := fun σ H Q => ∃ (z : Hd) (ρ : Sl) (M : MS) (R : List D → MS → Prop) (E : XP), RelS ⟨F, z⟩ H M σ ρ ∧ RelM ⟨F, z⟩ H M ∧ t ρ R E M ∧
  (∀ items M' H' J, R items M' → RelM ⟨F, z⟩ H' M' → Ext ⟨F, z⟩ H M H' M' → ItOk ⟨F, z⟩ J items H' M' → Q J H') ∧ XOk ⟨F, z⟩ H M W E
abbrev DI (X : Cx) (W : WX) (tg it : Expr) (t : DTI) : Prop := PI X tg it (liftI X.K W t)
theorem impI {X : Cx} {tg e : Expr} {t u : TI} (h : PI X tg e t) (hi : ∀ σ H Q, u σ H Q → t σ H Q) : PI X tg e u := ⟨fun pins s σ H Q I q => h.run pins s σ H Q I (hi σ H Q q)⟩
theorem orI {X : Cx} {tg e : Expr} {t u : TE} {ti ui : TI} (h : PI X tg e ti) : True := trivial
section
variable {K : ZK} {H : Hp} {M : MS}
theorem itOk_list {p : Addr} {ds : List D} (r : Rel K H M (.ref p) (.lst ds)) : ItOk K (Itl K.K p) ds H M where
  go := fun K' i H' M' hk hi m e => by
    cases e _ _ r with
    | lst s ra =>
      obtain ⟨v, a, _⟩ := ra.get (List.getElem?_eq_getElem hi)
      exact ⟨_, v, (hk.1 ▸ s.sq), a⟩
  stop := fun K' H' M' hk m e => by
    cases e _ _ r with
    | lst s ra => exact ⟨_, (hk.1 ▸ s.sq), Nat.le_of_eq ra.length⟩
  yld := fun K' i x H' M' H'' hk hi m e y => by
    obtain ⟨rfl, y⟩ := y
    cases e _ _ r with
    | lst s ra =>
      obtain ⟨d, a, b⟩ := ra.getV (y _ (hk.1 ▸ s.sq))
      exact ⟨d, a, b, m, Ext.refl⟩
theorem itOk_tup {p : Addr} {ds : List D} (r : Rel K H M (.ref p) (.tup ds)) : ItOk K (Itt K.K p) ds H M where
  go := fun K' i H' M' hk hi m e => by
    cases e _ _ r with
    | tup s ra =>
      obtain ⟨v, a, _⟩ := ra.get (List.getElem?_eq_getElem hi)
      exact ⟨_, v, hk.1 ▸ s, a⟩
  stop := fun K' H' M' hk m e => by
    cases e _ _ r with
    | tup s ra => exact ⟨_, hk.1 ▸ s, Nat.le_of_eq ra.length⟩
  yld := fun K' i x H' M' H'' hk hi m e y => by
    obtain ⟨rfl, y⟩ := y
    cases e _ _ r with
    | tup s ra =>
      obtain ⟨d, a, b⟩ := ra.getV (y _ (hk.1 ▸ s))
      exact ⟨d, a, b, m, Ext.refl⟩
/-- a list of the store, locked -/
theorem itOk_lock {p : Addr} {vs : List V} {ds : List D} (h : K.hid p = some vs) (r : RelA K H M vs ds) : ItOk K (Itl K.K p) ds H M where
  go := fun K' i H' M' hk hi m e => by
    obtain ⟨v, a, _⟩ := r.get (List.getElem?_eq_getElem hi)
    exact ⟨vs, v, SqL.of (m.hid p vs (hk.2 p vs h)).2, a⟩
  stop := fun K' H' M' hk m e => ⟨vs, SqL.of (m.hid p vs (hk.2 p vs h)).2, Nat.le_of_eq r.length⟩
  yld := fun K' i x H' M' H'' hk hi m e y => by
    obtain ⟨rfl, y⟩ := y
    obtain ⟨d, a, b⟩ := (e.all r).getV (y _ (SqL.of (m.hid p vs (hk.2 p vs h)).2))
    exact ⟨d, a, b, m, Ext.refl⟩
def rng (lo : Int) (n : Nat) : List D := (List.range n).map fun (i : Nat) => D.int (lo + i)
theorem itOk_rng {lo : Int} {n : Nat} : ItOk K (Itr lo n) (rng lo n) H M where
  go := fun K' i H' M' hk hi m e => by
    have h : i < n := by simpa [rng] using hi
    exact h
  stop := fun K' H' M' hk m e => by
    show n ≤ (rng lo n).length
    simp [rng]
  yld := fun K' i x H' M' H'' hk hi m e y => by
    obtain ⟨rfl, rfl⟩ := y
    have h : i < n := by simpa [rng] using hi
    refine ⟨.int (lo + i), ?_, .int _, m, Ext.refl⟩
    unfold rng
    rw [List.getElem?_map, List.getElem?_range h]
    rfl
end
section
variable {X : Cx} {W : WX} {a b c e tg it : Expr} {te ta tb : DTE} {tA : DTT} {bs : List Stmt} {t : DTS} {w : DTI} {p : Pat} {pos : Pos}
/-- a list that nobody changes, a tuple -/
def dItems (te : DTE) : DTI := fun ρ R E M => te ρ (fun d M1 => match d with
  | .lst ds => R ds M1
  | .tup ds => R ds M1
  | _ => False) E M
theorem di_items (he : DE X W e te) : DI X W tg e (dItems te) := by
  refine ⟨fun pins s σ H R I ⟨z, ρ, M, R', E, hs, hm, h, hc, hE⟩ => ?_⟩
  refine thn (he.run pins s σ H (fun v H1 => (∃ p vs J, v = .ref p ∧ SqL X.K H1 p vs ∧ J = Itl X.K p ∧ R J H1) ∨ ∃ p vs J, v = .ref p ∧ SqT X.K H1 p vs ∧ J = Itt X.K p ∧ R J H1) I
    ⟨z, ρ, M, _, E, hs, hm, h, fun d M1 v H1 h1 m1 r1 e1 => ?_, hE⟩) fun u s1 ⟨v, H1, I1, ru, q⟩ => ?_
  · cases d with
    | lst ds =>
      cases r1 with
      | lst sq ra => exact .inl ⟨_, _, _, rfl, sq.sq, rfl, hc ds M1 H1 _ h1 m1 e1 (itOk_list (.lst sq ra))⟩
    | tup ds =>
      cases r1 with
      | tup sq ra => exact .inr ⟨_, _, _, rfl, sq, rfl, hc ds M1 H1 _ h1 m1 e1 (itOk_tup (.tup sq ra))⟩
    | _ => exact (show False from h1).elim
  · rcases q with ⟨p, vs, J, rfl, sq, rfl, q⟩ | ⟨p, vs, J, rfl, sq, rfl, q⟩
    · cases ru
      obtain ⟨its, rv, pl, hz⟩ := I1.list sq
      refine wpAny_pyIter_list pl.isList ⟨s1.heap.objs.size, [s1.heap.objs.size], _, _, H1, rfl, I1.kept (t' := s1.toks) fun b o e => Heap.get?_push_of_some _ e, turn_list p _, ⟨_, Heap.get?_push_size _ rfl, rfl, rfl⟩, fun b hb => ?_, q⟩
      rw [List.mem_singleton] at hb
      rw [hb]
      exact I1.fpOk (Nat.le_refl _) (I1.hok.fresh (Nat.le_refl _))
    · cases ru
      obtain ⟨its, rv, pl, hz⟩ := I1.tuple sq
      refine wpAny_pyIter_tuple (show s1.heap.IsTuple p its.toArray from pl) ⟨s1.heap.objs.size, [s1.heap.objs.size], _, _, H1, rfl, I1.kept (t' := s1.toks) fun b o e => Heap.get?_push_of_some _ e, turn_tuple p _, ⟨_, Heap.get?_push_size _ rfl, rfl, rfl⟩, fun b hb => ?_, q⟩
      rw [List.mem_singleton] at hb
      rw [hb]
      exact I1.fpOk (Nat.le_refl _) (I1.hok.fresh (Nat.le_refl _))
/-- range(n), range(a, b) -/
def dRng1 (t : DTA) : DTI := fun ρ R E M => t ρ (fun ds M1 => match ds with
  | [.int j] => -(2 ^ 62) ≤ j ∧ j < 2 ^ 62 ∧ R (rng 0 j.toNat) M1
  | _ => False) E M
def dRng2 (t : DTA) : DTI := fun ρ R E M => t ρ (fun ds M1 => match ds with
  | [.int i, .int j] => (-(2 ^ 62) ≤ i ∧ i < 2 ^ 62 ∧ -(2 ^ 62) ≤ j ∧ j < 2 ^ 62) ∧ R (rng i (j - i).toNat) M1
  | _ => False) E M
theorem di_rng1 {t : DTA} {pp : Pos} (hm : X.mg "range" = none) (ha : DA X W [a] t) (hg : Gl X "range" := by rfl) (hs : starEach [a] X.env = [(false, eval a X.env)] := by rfl) : DI X W tg (.Call (.Name "range" pp) [a] [] pos) (dRng1 t) :=
  impI (pi_range1 hg hm ha hs) fun σ H Q ⟨z, ρ, M, R, E, hs, hm, h, hc, hE⟩ =>
    ⟨z, ρ, M, _, E, hs, hm, h, fun ds M1 vs H1 h1 m1 r1 e1 => by
      split at h1
      · cases r1 with
        | cons x y =>
          cases x; cases y
          exact ⟨_, rfl, h1.1, h1.2.1, hc _ _ _ _ h1.2.2 m1 e1 itOk_rng⟩
      · exact h1.elim, hE⟩
theorem di_rng2 {t : DTA} {pp : Pos} (hm : X.mg "range" = none) (ha : DA X W [a, b] t) (hg : Gl X "range" := by rfl) (hs : starEach [a, b] X.env = [(false, eval a X.env), (false, eval b X.env)] := by rfl) (hs2 : starEach [b] X.env = [(false, eval b X.env)] := by rfl) :
    DI X W tg (.Call (.Name "range" pp) [a, b] [] pos) (dRng2 t) :=
  impI (pi_range2 hg hm ha hs hs2) fun σ H Q ⟨z, ρ, M, R, E, hs, hm, h, hc, hE⟩ =>
    ⟨z, ρ, M, _, E, hs, hm, h, fun ds M1 vs H1 h1 m1 r1 e1 => by
      split at h1
      · cases r1 with
        | cons x y =>
          cases y with
          | cons y y2 =>
            cases x; cases y; cases y2
            exact ⟨_, _, rfl, h1.1, hc _ _ _ _ h1.2 m1 e1 itOk_rng⟩
      · exact h1.elim, hE⟩

/-! ### for, while -/
def forW (p : Pat) (body : DTS) (De : DEnds) : List D → Sl → MS → Prop
  | [], ρ, M => De.nx ρ M
  | d :: ds, ρ, M => patW p d ρ (fun ρ1 M1 => body { De with nx := forW p body De ds, ct := forW p body De ds, bk := De.nx } ρ1 M1) M
def dFor (w : DTI) (p : Pat) (body : DTS) : DTS := fun De ρ M => w ρ (fun items M1 => forW p body De items ρ M1) De.ex M
theorem drop_step {α : Type} (items : List α) (i : Nat) : items.drop i = match items[i]? with | some d => d :: items.drop (i + 1) | none => [] := by
  cases q : items[i]? with
  | none => exact List.drop_eq_nil_of_le (List.getElem?_eq_none_iff.mp q)
  | some d =>
    obtain ⟨hl, e⟩ := List.getElem?_eq_some_iff.mp q
    rw [← e]
    exact List.drop_eq_getElem_cons hl
/-- the loop by its items -/
theorem for_core {z : Hd} {ρ : Sl} {σ : St} {H1 : Hp} {M1 : MS} {J : It} {items : List D} {De : Ends} {Dd : DEnds} (ok : ItOk ⟨X.K, z⟩ J items H1 M1) (hs : RelS ⟨X.K, z⟩ H1 M1 σ ρ) (m1 : RelM ⟨X.K, z⟩ H1 M1)
    (h1 : forW p t Dd items ρ M1) (L : LS ⟨X.K, z⟩ W De Dd H1 M1) : ∃ Wv : Nat → Nat → St → Hp → Prop, (∃ m, Wv 0 m σ H1) ∧ ∀ i m σ H, Wv i m σ H →
      (J.stop i H ∧ De.nx σ H) ∨ (J.go i H ∧ ∃ N : St → Hp → Prop, (∀ σ' H', N σ' H' → ∃ m', m' < m ∧ Wv (i + 1) m' σ' H') ∧ ∀ x H', J.yld i H x H' → liftG X.K p x σ H' fun σ2 H2 => liftS X.K W t { De with nx := N, ct := N, bk := De.nx } σ2 H2) := by
  refine ⟨fun i m σ' H' => m = items.length - i ∧ i ≤ items.length ∧ ∃ ρ' M', RelS ⟨X.K, z⟩ H' M' σ' ρ' ∧ RelM ⟨X.K, z⟩ H' M' ∧ Ext ⟨X.K, z⟩ H1 M1 H' M' ∧ forW p t Dd (items.drop i) ρ' M',
    ⟨items.length, by simp, Nat.zero_le _, ρ, M1, hs, m1, Ext.refl, by rw [List.drop_zero]; exact h1⟩, ?_⟩
  rintro i m σ' H' ⟨rfl, hi, ρ', M', s', m', e', f⟩
  by_cases hlt : i < items.length
  · have q : items[i]? = some items[i] := List.getElem?_eq_getElem hlt
    rw [drop_step items i, q] at f
    refine .inr ⟨ok.go _ i H' M' (HidLe.refl _) hlt m' e', fun σ2 H2 => ∃ ρ2 M2, RelS ⟨X.K, z⟩ H2 M2 σ2 ρ2 ∧ RelM ⟨X.K, z⟩ H2 M2 ∧ Ext ⟨X.K, z⟩ H1 M1 H2 M2 ∧ forW p t Dd (items.drop (i + 1)) ρ2 M2,
      fun σ2 H2 ⟨ρ2, M2, a, b, c, d⟩ => ⟨items.length - (i + 1), by omega, rfl, hlt, ρ2, M2, a, b, c, d⟩, fun x H'' y => ?_⟩
    obtain ⟨d, hd, rd, mm, ee⟩ := ok.yld _ i x H' M' H'' (HidLe.refl _) hlt m' e' y
    rw [q] at hd
    cases hd
    refine ⟨z, _, ρ', M', _, rd, s'.ext ee, mm, f, fun ρ3 σ3 q3 s3 _ => ⟨z, ρ3, M', _, s3, mm, q3, ?_⟩⟩
    have e3 := e'.trans ee
    have L3 := L.ext e3
    exact ⟨fun a b c d p1 p2 p3 p4 => ⟨a, b, p3, p2, e3.trans p4, p1⟩, L3.rt, L3.nx, fun a b c d p1 p2 p3 p4 => ⟨a, b, p3, p2, e3.trans p4, p1⟩, L3.ex⟩
  · have e : i = items.length := by omega
    subst e
    rw [List.drop_length] at f
    exact .inl ⟨ok.stop _ H' M' (HidLe.refl _) m' e', L.nx ρ' M' σ' H' f m' s' e'⟩
theorem ds_for (hp : PassesOwn (model X.prog X.w) X.A X.env X.xe) (hc : X.calm = true) (hi : DI X W tg it w) (hg : DG X tg p) (hb : DSs X W bs t) (hs : ∀ x, foldedSetIterable it X.env x = pure x := by intro _; rfl) :
    DS X W (.For tg it bs [] pos) (dFor w p t) :=
  impS (ps_for hp hc hi hg hb hs) fun De σ H ⟨z, ρ, M, Dd, hs, hm, h, L⟩ =>
    ⟨z, ρ, M, _, _, hs, hm, h, fun items M1 H1 J h1 m1 e1 ok => for_core ok (hs.ext e1) m1 h1 (L.ext e1), L.ex⟩
/-- over a list of the store at the i-th slot: it is locked meanwhile -/
def lockE (a : Addr) (ds : List D) (De : DEnds) : DEnds where
  nx := fun ρ M => De.nx ρ (um M a (.lst ds))
  rt := fun d M => De.rt d (um M a (.lst ds))
  bk := fun ρ M => De.bk ρ (um M a (.lst ds))
  ct := fun ρ M => De.ct ρ (um M a (.lst ds))
  ex := fun x ρ M => De.ex x ρ (um M a (.lst ds))
def dm (M : MS) (a : Addr) : MS := fun b => if b = a then none else M b
theorem dm_same {M : MS} {a : Addr} : dm M a a = none := if_pos rfl
theorem dm_ne {M : MS} {a b : Addr} (h : b ≠ a) : dm M a b = M b := if_neg h
theorem um_dm {M : MS} {a : Addr} {o : MO} (h : M a = some o) : um (dm M a) a o = M := by
  funext b
  by_cases e : b = a
  · subst e; rw [um_same, h]
  · rw [um_ne e, dm_ne e]
theorem dm_um {M : MS} {a : Addr} {o : MO} : dm (um M a o) a = dm M a := by
  funext b
  by_cases e : b = a
  · subst e; rw [dm_same, dm_same]
  · rw [dm_ne e, dm_ne e, um_ne e]
/-- hidden: the list at Da holds vs -/
def zz (z : Hd) (Da : Addr) (vs : List V) : Hd := fun a => if a = Da then some vs else z a
theorem zz_same {z : Hd} {Da : Addr} {vs : List V} : zz z Da vs Da = some vs := if_pos rfl
theorem zz_ne {z : Hd} {Da a : Addr} {vs : List V} (h : a ≠ Da) : zz z Da vs a = z a := if_neg h
section
variable {F : PySem.W.Frag} {z : Hd} {H H' : Hp} {M M' : MS} {a : Addr} {vs : List V} {ds : List D}
theorem lock_in (m : RelM ⟨F, z⟩ H M) (ea : M a = some (.lst ds)) (eh : H a = some (.lst vs)) : ExtX ⟨F, z⟩ H M ⟨F, zz z a vs⟩ H (dm M a) ∧ RelM ⟨F, zz z a vs⟩ H (dm M a) := by
  have f : FoExt ⟨F, z⟩ H M ⟨F, zz z a vs⟩ H (dm M a) := fun p o _ s => by
    have ne : p ≠ a := fun q => by
      have n := s.1.1
      rw [q, ea] at n; cases n
    exact ⟨⟨(dm_ne ne).trans s.1.1, (zz_ne ne).trans s.1.2⟩, s.2⟩
  have e : ExtX ⟨F, z⟩ H M ⟨F, zz z a vs⟩ H (dm M a) := by
    exact ExtX.of (fun p xs s => s) f fun p xs s => s
  refine ⟨e, fun b mo q => ?_, fun b ws q => ?_, m.tab.mono f⟩
  · have ne : b ≠ a := fun q2 => by rw [q2, dm_same] at q; cases q
    rw [dm_ne ne] at q
    exact (m.at' b mo q).extX e rfl
  · by_cases hb : b = a
    · subst hb
      rw [show (⟨F, zz z b vs⟩ : ZK).hid b = some vs from zz_same] at q
      cases q
      exact ⟨dm_same, eh⟩
    · obtain ⟨q1, q2⟩ := m.hid b ws ((zz_ne hb).symm.trans q)
      exact ⟨(dm_ne hb).trans q1, q2⟩
theorem lock_out (hz : z a = none) (m : RelM ⟨F, zz z a vs⟩ H' M') (r : RelA ⟨F, zz z a vs⟩ H' M' vs ds) : ExtX ⟨F, zz z a vs⟩ H' M' ⟨F, z⟩ H' (um M' a (.lst ds)) ∧ RelM ⟨F, z⟩ H' (um M' a (.lst ds)) := by
  have f : FoExt ⟨F, zz z a vs⟩ H' M' ⟨F, z⟩ H' (um M' a (.lst ds)) := fun p o _ s => by
    have ne : p ≠ a := fun q => by
      have n : zz z a vs p = none := s.1.2
      rw [q, zz_same] at n; cases n
    exact ⟨⟨(um_ne ne).trans s.1.1, (zz_ne ne).symm.trans s.1.2⟩, s.2⟩
  have e : ExtX ⟨F, zz z a vs⟩ H' M' ⟨F, z⟩ H' (um M' a (.lst ds)) := by
    exact ExtX.of (fun p xs s => s) f fun p xs s => s
  refine ⟨e, fun b mo q => ?_, fun b ws q => ?_, m.tab.mono f⟩
  · by_cases hb : b = a
    · subst hb
      rw [um_same] at q
      cases q
      exact ⟨vs, (m.hid b vs zz_same).2, e.all r⟩
    · rw [um_ne hb] at q
      exact (m.at' b mo q).extX e rfl
  · have hb : b ≠ a := fun q2 => by
      rw [q2] at q
      rw [show (⟨F, z⟩ : ZK).hid a = none from hz] at q; cases q
    obtain ⟨q1, q2⟩ := m.hid b ws ((zz_ne hb).trans q)
    exact ⟨(um_ne hb).trans q1, q2⟩
theorem relX_ext {K K' : ZK} {cls : Value} {d : Option Addr} {x : Ex} (e : ExtX K H M K' H M') (hK : K'.K = K.K) (hn : ∀ dx gs, H dx = some (.xd gs) → M dx = none → M' dx = none) (r : RelX K H M cls d x) : RelX K' H M' cls d x := by
  obtain ⟨h, dx, gs, h1, h2, h0, h3⟩ := r
  exact ⟨by rw [hK]; exact h, dx, gs, h1, h2, hn dx gs h2 h0, e.keys h3⟩
end
theorem LS.lock {z : Hd} {De : Ends} {Dd : DEnds} {H : Hp} {M : MS} {a : Addr} {vs : List V} {ds : List D} (L : LS ⟨X.K, z⟩ W De Dd H M) (hz : z a = none) (m : RelM ⟨X.K, z⟩ H M) (ea : M a = some (.lst ds)) (eh : H a = some (.lst vs)) (ra : RelA ⟨X.K, z⟩ H M vs ds) :
    LS ⟨X.K, zz z a vs⟩ W De (lockE a ds Dd) H (dm M a) := by
  obtain ⟨e0, m0⟩ := lock_in m ea eh
  have back : ∀ {H' : Hp} {M' : MS}, RelM ⟨X.K, zz z a vs⟩ H' M' → Ext ⟨X.K, zz z a vs⟩ H (dm M a) H' M' → ExtX ⟨X.K, zz z a vs⟩ H' M' ⟨X.K, z⟩ H' (um M' a (.lst ds)) ∧ RelM ⟨X.K, z⟩ H' (um M' a (.lst ds)) ∧ Ext ⟨X.K, z⟩ H M H' (um M' a (.lst ds)) := fun m' e' => by
    obtain ⟨x, m2⟩ := lock_out hz m' (e'.all (e0.all ra))
    exact ⟨x, m2, ExtX.trans e0 (ExtX.trans e' x)⟩
  refine ⟨fun ρ' M' σ' H' q m' s' e' => ?_, fun d M' v H' q m' r' e' => ?_, fun ρ' M' σ' H' q m' s' e' => ?_, fun ρ' M' σ' H' q m' s' e' => ?_, fun x ρ' M' cls d σ' H' q m' s' r' e' => ?_⟩
  · obtain ⟨x, m2, e2⟩ := back m' e'
    exact L.nx _ _ _ _ q m2 (s'.extX x) e2
  · obtain ⟨x, m2, e2⟩ := back m' e'
    exact L.rt _ _ _ _ q m2 (x _ _ r') e2
  · obtain ⟨x, m2, e2⟩ := back m' e'
    exact L.bk _ _ _ _ q m2 (s'.extX x) e2
  · obtain ⟨x, m2, e2⟩ := back m' e'
    exact L.ct _ _ _ _ q m2 (s'.extX x) e2
  · obtain ⟨y, m2, e2⟩ := back m' e'
    exact L.ex _ _ _ _ _ _ _ q m2 (s'.extX y) (relX_ext y rfl (fun dx gs h1 h2 => by
      have ne : dx ≠ a := fun z => by
        have h3 := (m'.hid a vs zz_same).2
        rw [z, h3] at h1
        cases h1
      rw [um_ne ne]; exact h2) r') e2
def dForL (i : Nat) (p : Pat) (body : DTS) : DTS := fun De ρ M => match sl ρ i with
  | some (.ref a) => ∃ ds, M a = some (.lst ds) ∧ forW p body (lockE a ds De) ds ρ (dm M a)
  | _ => False
theorem RelM.hidN {K : ZK} {H : Hp} {M : MS} (m : RelM K H M) {a : Addr} {o : MO} (e : M a = some o) : K.hid a = none := by
  cases q : K.hid a with
  | none => rfl
  | some vs =>
    have z := (m.hid a vs q).1
    rw [e] at z; cases z
theorem ds_forL (i : Nat) {x : Str} {px : Pos} (hp : PassesOwn (model X.prog X.w) X.A X.env X.xe) (hc : X.calm = true) (hg : DG X tg p) (hb : DSs X W bs t) (hN : X.N[i]? = some x := by rfl) (hv : Vis X.env.scope x := by first | exact Or.inl rfl | exact Or.inr (Or.inl rfl) | exact Or.inr (Or.inr rfl))
    (hd : (x == ("__debug__" : Str)) = false := by decide) (hcd : (x == ("__classdict__" : Str)) = false := by decide) (hs : ∀ y, foldedSetIterable (.Name x px) X.env y = pure y := by intro _; rfl) :
    DS X W (.For tg (.Name x px) bs [] pos) (dForL i p t) :=
  impS (ps_for hp hc (pi_list (pe_var hN hv hd hcd)) hg hb hs) fun De σ H ⟨z, ρ, M, Dd, hs, hm, h, L⟩ => by
    unfold dForL at h
    split at h
    · next a q =>
      obtain ⟨ds, ea, f⟩ := h
      obtain ⟨v, e1, r1⟩ := hs.2 i _ (sl_get q)
      cases r1
      obtain ⟨vs, eh, ra⟩ := hm.at' a _ ea
      obtain ⟨e0, m0⟩ := lock_in hm ea eh
      exact ⟨_, e1, a, rfl, ⟨vs, SqL.of eh⟩, for_core (itOk_lock zz_same (e0.all ra)) (hs.extX e0) m0 f (L.lock (hm.hidN ea) hm ea eh ra)⟩
    · exact h.elim
def whileW (tA : DTT) (body : DTS) (De : DEnds) : Nat → Sl → MS → Prop
  | 0, _, _ => False
  | n + 1, ρ, M => tA ρ (fun k M1 => if k = true then body { De with nx := whileW tA body De n, ct := whileW tA body De n, bk := De.nx } ρ M1 else De.nx ρ M1) De.ex M
def dWhile (tA : DTT) (body : DTS) : DTS := fun De ρ M => ∃ n, whileW tA body De n ρ M
theorem ds_while (hp : PassesOwn (model X.prog X.w) X.A X.env X.xe) (hc : DT X W c tA) (hb : DSs X W bs t) : DS X W (.While c bs [] pos) (dWhile tA t) :=
  impS (ps_while hp hc hb) fun De σ H ⟨z, ρ, M, Dd, hs, hm, ⟨n, h⟩, L⟩ => by
    refine ⟨fun n σ' H' => ∃ ρ' M', RelS ⟨X.K, z⟩ H' M' σ' ρ' ∧ RelM ⟨X.K, z⟩ H' M' ∧ Ext ⟨X.K, z⟩ H M H' M' ∧ whileW tA t Dd n ρ' M', ⟨n, ρ, M, hs, hm, Ext.refl, h⟩, ?_⟩
    rintro n σ' H' ⟨ρ', M', s', m', e', f⟩
    cases n with
    | zero => exact (show False from f).elim
    | succ n =>
      refine ⟨z, ρ', M', _, _, s', m', f, fun k M1 H1 h1 m1 e1 => ?_, (L.ext e').ex⟩
      have L1 := L.ext (e'.trans e1)
      cases k with
      | true =>
        refine iteT ⟨fun σ2 H2 => ∃ ρ2 M2, RelS ⟨X.K, z⟩ H2 M2 σ2 ρ2 ∧ RelM ⟨X.K, z⟩ H2 M2 ∧ Ext ⟨X.K, z⟩ H M H2 M2 ∧ whileW tA t Dd n ρ2 M2, fun σ2 H2 q => ⟨n, Nat.lt_succ_self n, q⟩, ?_⟩
        exact ⟨z, ρ', M1, _, s'.ext e1, m1, ofT h1, fun a b c d p1 p2 p3 p4 => ⟨a, b, p3, p2, e'.trans (e1.trans p4), p1⟩, L1.rt, L1.nx, fun a b c d p1 p2 p3 p4 => ⟨a, b, p3, p2, e'.trans (e1.trans p4), p1⟩, L1.ex⟩
      | false => exact iteF (L1.nx _ _ _ _ (ofF h1) m1 (s'.ext e1) Ext.refl)
end
end L2.DL
/-! DLe: comprehensions -/
namespace L2.DL
open PySem PySem.Spec PyProof.Rows
variable [Tbs]

def noX : XP := fun _ _ _ => False
def lcW (p : Pat) (tt : DTT) (te : DTE) (vs : List Nat) (ρ : Sl) (R : List D → MS → Prop) : List D → List D → MS → Prop
  | [], acc, M => R acc M
  | d :: ds, acc, M => patW p d (wipeD ρ vs) (fun ρ1 M1 => tt ρ1 (fun b M2 => if b = true then te ρ1 (fun y M3 => acc.length < sizeLine ∧ lcW p tt te vs ρ R ds (acc ++ [y]) M3) noX M2 else lcW p tt te vs ρ R ds acc M2) noX M1) M
def dLc (w : DTI) (p : Pat) (tt : DTT) (te : DTE) (vs : List Nat) : DTE := fun ρ R E M => w ρ (fun items M1 => lcW p tt te vs ρ (fun acc M2 => R (.lst acc) M2) items [] M1) E M
def dYes : DTT := fun _ R _ M => R true M
abbrev DTs (X : Cx) (W : WX) (ifs : List Expr) (t : DTT) : Prop := PTs X ifs (liftT X.K W t)
abbrev W0 : WX := fun _ _ _ _ => False
section
variable {F : PySem.W.Frag} {z : Hd} {H : Hp} {M : MS} {Da : Addr} {vs us : List V}
theorem hid_new (m : RelM ⟨F, z⟩ H M) (h : H Da = none) : ExtX ⟨F, z⟩ H M ⟨F, zz z Da vs⟩ (upd H Da (.lst vs)) M ∧ RelM ⟨F, zz z Da vs⟩ (upd H Da (.lst vs)) M := by
  have f : FoExt ⟨F, z⟩ H M ⟨F, zz z Da vs⟩ (upd H Da (.lst vs)) M := fun p o _ s => by
    have ne := ne_of_none s.2 h
    exact ⟨⟨s.1.1, (zz_ne ne).trans s.1.2⟩, (upd_ne ne).trans s.2⟩
  have e : ExtX ⟨F, z⟩ H M ⟨F, zz z Da vs⟩ (upd H Da (.lst vs)) M := ExtX.of (fun p xs s => sqT_upd (K := ⟨F, z⟩) s (.inl h)) f fun p xs s => sc_upd (K := ⟨F, z⟩) s (.inl h)
  refine ⟨e, fun a mo q => ?_, fun a ws q => ?_, m.tab.mono f⟩
  · obtain ⟨u, q2, _⟩ := (m.at' a mo q).some
    exact (m.at' a mo q).extX e (upd_ne (ne_of_none q2 h))
  · by_cases ha : a = Da
    · subst ha
      rw [show (⟨F, zz z a vs⟩ : ZK).hid a = some vs from zz_same] at q
      cases q
      exact ⟨m.free h, upd_same⟩
    · have q' : z a = some ws := (zz_ne ha).symm.trans q
      obtain ⟨q1, q2⟩ := m.hid a ws q'
      exact ⟨q1, (upd_ne ha).trans q2⟩
theorem hid_more (m : RelM ⟨F, zz z Da us⟩ H M) : ExtX ⟨F, zz z Da us⟩ H M ⟨F, zz z Da vs⟩ (upd H Da (.lst vs)) M ∧ RelM ⟨F, zz z Da vs⟩ (upd H Da (.lst vs)) M := by
  obtain ⟨n1, n2⟩ := m.hid Da us zz_same
  have w : H Da = none ∨ ∃ u, H Da = some u ∧ ∀ ys, u ≠ .tup ys ∧ ∀ ob, u ≠ .frz ob (.tup ys) := .inr ⟨_, n2, fun ys => ⟨fun e => (nomatch e), fun ob e => (nomatch e)⟩⟩
  have f : FoExt ⟨F, zz z Da us⟩ H M ⟨F, zz z Da vs⟩ (upd H Da (.lst vs)) M := fun p o _ s => by
    have ne : p ≠ Da := fun q => by
      have s2 : zz z Da us p = none := s.1.2
      rw [q, zz_same] at s2; cases s2
    exact ⟨⟨s.1.1, (zz_ne ne).trans ((zz_ne ne).symm.trans s.1.2)⟩, (upd_ne ne).trans s.2⟩
  have e : ExtX ⟨F, zz z Da us⟩ H M ⟨F, zz z Da vs⟩ (upd H Da (.lst vs)) M := ExtX.of (fun p xs s => sqT_upd (K := ⟨F, z⟩) s w) f fun p xs s => sc_upd (K := ⟨F, z⟩) s (.inr ⟨_, n2, fun ys ob e => nomatch e⟩)
  refine ⟨e, fun a mo q => ?_, fun a ws q => ?_, m.tab.mono f⟩
  · have ne : a ≠ Da := fun q2 => by rw [q2, n1] at q; cases q
    exact (m.at' a mo q).extX e (upd_ne ne)
  · by_cases ha : a = Da
    · subst ha
      rw [show (⟨F, zz z a vs⟩ : ZK).hid a = some vs from zz_same] at q
      cases q
      exact ⟨n1, upd_same⟩
    · have q' : zz z Da us a = some ws := (zz_ne ha).trans ((zz_ne ha).symm.trans q)
      obtain ⟨q1, q2⟩ := m.hid a ws q'
      exact ⟨q1, (upd_ne ha).trans q2⟩
theorem hid_drop (hz : z Da = none) (m : RelM ⟨F, zz z Da us⟩ H M) : ExtX ⟨F, zz z Da us⟩ H M ⟨F, z⟩ H M ∧ RelM ⟨F, z⟩ H M := by
  have f : FoExt ⟨F, zz z Da us⟩ H M ⟨F, z⟩ H M := fun p o _ s => by
    have ne : p ≠ Da := fun q => by
      have s2 : zz z Da us p = none := s.1.2
      rw [q, zz_same] at s2; cases s2
    exact ⟨⟨s.1.1, (zz_ne ne).symm.trans s.1.2⟩, s.2⟩
  have e : ExtX ⟨F, zz z Da us⟩ H M ⟨F, z⟩ H M := ExtX.of (fun p xs s => s) f fun p xs s => s
  refine ⟨e, fun a mo q => (m.at' a mo q).extX e rfl, fun a ws q => ?_, m.tab.mono f⟩
  have ne : a ≠ Da := fun q2 => by
    rw [q2] at q
    rw [show (⟨F, z⟩ : ZK).hid Da = none from hz] at q; cases q
  exact m.hid a ws ((zz_ne ne).trans q)
end
section
variable {X : Cx} {W : WX} {elt tg iter : Expr} {ifs : List Expr} {scope : Scope} {own : List (Str × Nat)} {pos : Pos} {w : DTI} {p : Pat} {tt : DTT} {te : DTE}
theorem dts_nil {X : Cx} : DTs X W [] dYes := ⟨fun pins s σ H Q I ⟨z, ρ, M, R, E, hs, hm, h, hc, hE⟩ => pts_nil.run pins s σ H Q I (hc _ _ _ h hm Ext.refl)⟩
theorem dts_one {X : Cx} {c : Expr} {t : DTT} (h : DT X W c t) : DTs X W [c] t := pts_one h
/-- what the uses share: the reading of the loop -/
theorem lc_core' {σ : St} {H1 : Hp} {z : Hd} {ρ : Sl} {M1 : MS} {J : It} {items : List D} {R : List D → MS → Prop} {Q : VK} (ok : ItOk ⟨X.K, z⟩ J items H1 M1) (hs : RelS ⟨X.K, z⟩ H1 M1 σ ρ) (m1 : RelM ⟨X.K, z⟩ H1 M1) (h1 : lcW p tt te (own.map (·.2)) ρ R items [] M1)
    (hp : ∀ i ∈ p.ns, i ∈ own.map (·.2)) (hc : ∀ acc M' v H', R acc M' → RelM ⟨X.K, z⟩ H' M' → Rel ⟨X.K, z⟩ H' M' v (.lst acc) → Ext ⟨X.K, z⟩ H1 M1 H' M' → Q v H') :
    ∀ D, H1 D = none → ∃ Wv : Nat → Nat → Hp → Prop, (∃ m, Wv 0 m (upd H1 D (.lst []))) ∧ ∀ i m H, Wv i m H →
      (J.stop i H ∧ Q (.ref D) H) ∨ (J.go i H ∧ ∃ Nx : Hp → Prop, (∀ H', Nx H' → ∃ m', m' < m ∧ Wv (i + 1) m' H') ∧ ∀ x H', J.yld i H x H' → liftG X.K p x (L2.wipe σ (own.map (·.2))) H' fun σ2 H2 => L2.wipe σ2 (own.map (·.2)) = L2.wipe σ (own.map (·.2)) ∧
        liftT X.K W0 tt σ2 H2 fun b H3 => if b = true then lift X.K W0 te σ2 H3 fun y H4 => ∃ acc, H4 D = some (.lst acc) ∧ acc.length < sizeLine ∧ Nx (upd H4 D (.lst (acc ++ [y]))) else Nx H3) := by
  intro Da hD
  have hz : z Da = none := m1.freeH hD
  obtain ⟨x0, n0⟩ := hid_new (vs := []) m1 hD
  have grow : ∀ {vs : List V}, HidLe ⟨X.K, z⟩ ⟨X.K, zz z Da vs⟩ := fun {vs} => ⟨rfl, fun a ws q => by
    have ne : a ≠ Da := fun q2 => by
      rw [q2] at q
      rw [show (⟨X.K, z⟩ : ZK).hid Da = none from hz] at q; cases q
    exact (zz_ne ne).trans q⟩
  refine ⟨fun i m H' => m = items.length - i ∧ i ≤ items.length ∧ ∃ acc accV M', RelM ⟨X.K, zz z Da accV⟩ H' M' ∧ RelA ⟨X.K, zz z Da accV⟩ H' M' accV acc ∧ ExtX ⟨X.K, z⟩ H1 M1 ⟨X.K, zz z Da accV⟩ H' M' ∧
      lcW p tt te (own.map (·.2)) ρ R (items.drop i) acc M', ⟨items.length, by simp, Nat.zero_le _, [], [], M1, n0, .nil, x0, by rw [List.drop_zero]; exact h1⟩, ?_⟩
  rintro i m H' ⟨rfl, hi, acc, accV, M', m', ra, e', f⟩
  by_cases hlt : i < items.length
  · have q : items[i]? = some items[i] := List.getElem?_eq_getElem hlt
    rw [drop_step items i, q] at f
    refine .inr ⟨ok.go ⟨X.K, zz z Da accV⟩ i H' M' grow hlt m' e', fun H2 => ∃ acc2 accV2 M2, RelM ⟨X.K, zz z Da accV2⟩ H2 M2 ∧ RelA ⟨X.K, zz z Da accV2⟩ H2 M2 accV2 acc2 ∧ ExtX ⟨X.K, z⟩ H1 M1 ⟨X.K, zz z Da accV2⟩ H2 M2 ∧
        lcW p tt te (own.map (·.2)) ρ R (items.drop (i + 1)) acc2 M2, fun H2 q2 => ⟨items.length - (i + 1), by omega, rfl, hlt, q2⟩, fun x H'' y => ?_⟩
    obtain ⟨d, hd, rd, mm, ee⟩ := ok.yld ⟨X.K, zz z Da accV⟩ i x H' M' H'' grow hlt m' e' y
    rw [q] at hd
    cases hd
    have s1 : RelS ⟨X.K, zz z Da accV⟩ H'' M' (L2.wipe σ (own.map (·.2))) (wipeD ρ (own.map (·.2))) := (hs.extX (ExtX.trans e' ee)).wipe _
    refine ⟨zz z Da accV, _, _, M', _, rd, s1, mm, f, fun ρ3 σ3 q3 s3 off => ⟨off.wipe hp, zz z Da accV, ρ3, M', _, _, s3, mm, q3, fun b M4 H4 h4 m4 e4 => ?_, fun _ _ _ _ _ _ _ ff => ff.elim⟩⟩
    cases b with
    | false => exact iteF ⟨acc, accV, M4, m4, (ee.trans e4).all ra, ExtX.trans e' (ExtX.trans ee e4), ofF h4⟩
    | true =>
      refine iteT ⟨zz z Da accV, ρ3, M4, _, _, s3.ext e4, m4, ofT h4, fun yv M5 vy H5 h5 m5 r5 e5 => ?_, fun _ _ _ _ _ _ _ ff => ff.elim⟩
      have ra5 := (ee.trans (e4.trans e5)).all ra
      obtain ⟨x6, m6⟩ := hid_more (vs := accV ++ [vy]) m5
      exact ⟨accV, (m5.hid Da accV zz_same).2, by rw [ra.length]; exact h5.1, acc ++ [yv], accV ++ [vy], M5, m6, (x6.all ra5).append (.cons (x6 _ _ r5) .nil), ExtX.trans e' (ExtX.trans ee (ExtX.trans e4 (ExtX.trans e5 x6))), h5.2⟩
  · have e : i = items.length := by omega
    subst e
    rw [List.drop_length] at f
    obtain ⟨x6, m6⟩ := hid_drop hz m'
    have hh := m'.hid Da accV zz_same
    exact .inl ⟨ok.stop ⟨X.K, zz z Da accV⟩ H' M' grow m' e', hc acc M' (.ref Da) H' f m6 (.lst ⟨⟨hh.1, hz⟩, hh.2⟩ (x6.all ra)) (ExtX.trans e' x6)⟩
theorem lc_read {σ : St} {H : Hp} {z : Hd} {ρ : Sl} {M : MS} {R : List D → MS → Prop} {E : XP} {Q : VK} (hs : RelS ⟨X.K, z⟩ H M σ ρ) (hm : RelM ⟨X.K, z⟩ H M) (h : w ρ (fun items M1 => lcW p tt te (own.map (·.2)) ρ R items [] M1) E M)
    (hp : ∀ i ∈ p.ns, i ∈ own.map (·.2))
    (hc : ∀ acc M' v H', R acc M' → RelM ⟨X.K, z⟩ H' M' → Rel ⟨X.K, z⟩ H' M' v (.lst acc) → Ext ⟨X.K, z⟩ H M H' M' → Q v H') (hE : XOk ⟨X.K, z⟩ H M W E) :
    tLc (liftI X.K W w) (liftG X.K p) (liftT X.K W0 tt) (lift X.K W0 te) (own.map (·.2)) σ H Q :=
  ⟨z, ρ, M, _, E, hs, hm, h, fun items M1 H1 J h1 m1 e1 ok => lc_core' ok (hs.ext e1) m1 h1 hp fun acc M' v H' a b c d => hc acc M' v H' a b c (e1.trans d), hE⟩
/-- over a list of the store at the i-th slot -/
def dLcL (i : Nat) (p : Pat) (tt : DTT) (te : DTE) (vs : List Nat) : DTE := fun ρ R _ M => match sl ρ i with
  | some (.ref a) => ∃ ds, M a = some (.lst ds) ∧ lcW p tt te vs ρ (fun acc M2 => R (.lst acc) (um M2 a (.lst ds))) ds [] (dm M a)
  | _ => False
theorem lc_readL {j : Nat} {σ : St} {H : Hp} {z : Hd} {ρ : Sl} {M : MS} {R : PD} {Q : VK} (hs : RelS ⟨X.K, z⟩ H M σ ρ) (hm : RelM ⟨X.K, z⟩ H M) (h : dLcL j p tt te (own.map (·.2)) ρ R noX M)
    (hp : ∀ i ∈ p.ns, i ∈ own.map (·.2)) (hc : Cont ⟨X.K, z⟩ H M R Q) :
    tLc (iList X.K (tVar j)) (liftG X.K p) (liftT X.K W0 tt) (lift X.K W0 te) (own.map (·.2)) σ H Q := by
  unfold dLcL at h
  split at h
  · next a q =>
    obtain ⟨ds, ea, f⟩ := h
    obtain ⟨v, e1, r1⟩ := hs.2 j _ (sl_get q)
    cases r1
    obtain ⟨vs, eh, ra⟩ := hm.at' a _ ea
    obtain ⟨e0, m0⟩ := lock_in hm ea eh
    refine ⟨_, e1, a, rfl, ⟨vs, SqL.of eh⟩, lc_core' (itOk_lock zz_same (e0.all ra)) (hs.extX e0) m0 f hp fun acc M' v' H' q' m' r' e' => ?_⟩
    obtain ⟨x, m2⟩ := lock_out (hm.hidN ea) m' (e'.all (e0.all ra))
    exact hc _ _ _ _ q' m2 (x _ _ r') (ExtX.trans e0 (ExtX.trans e' x))
  · exact h.elim
theorem de_lc (hc : X.calm = true) (hN : X.N.Nodup) (hi : DI X W tg iter w) (ok : BlkOk X.N X.env.scope scope own) (hp : ∀ i ∈ p.ns, i ∈ own.map (·.2))
    (hg : ∀ (s : Shared) (H : Hp) (C : Addr) (cl : List (Str × Addr)) (fp : List Addr), DG (X.blk s H scope (compEnvC scope cl C X.env) fp) tg p) (ht : ∀ (s : Shared) (H : Hp) (C : Addr) (cl : List (Str × Addr)) (fp : List Addr), DTs (X.blk s H scope (compEnvC scope cl C X.env) fp) W0 ifs tt)
    (he : ∀ (s : Shared) (H : Hp) (C : Addr) (cl : List (Str × Addr)) (fp : List Addr), DE (X.blk s H scope (compEnvC scope cl C X.env) fp) W0 elt te) (hs : ∀ x, foldedSetIterable iter X.env x = pure x := by intro _; rfl) :
    DE X W (.ListComp elt [⟨tg, iter, ifs, 0⟩] scope pos) (dLc w p tt te (own.map (·.2))) :=
  imp (pe_lc hc hN hi ok hg ht he hs) fun σ H Q ⟨z, ρ, M, R, E, hs, hm, h, hc, hE⟩ => lc_read hs hm h hp (fun acc M' v H' a b c d => hc _ _ _ _ a b c d) hE
/-- y = [..] -/
theorem ds_setLc (i : Nat) {y : Str} {py spos : Pos} (hc : X.calm = true) (hN : X.N.Nodup) (hi : DI X W tg iter w) (ok : BlkOk X.N X.env.scope scope own) (hp : ∀ i ∈ p.ns, i ∈ own.map (·.2))
    (hg : ∀ (s : Shared) (H : Hp) (C : Addr) (cl : List (Str × Addr)) (fp : List Addr), DG (X.blk s H scope (compEnvC scope cl C X.env) fp) tg p) (ht : ∀ (s : Shared) (H : Hp) (C : Addr) (cl : List (Str × Addr)) (fp : List Addr), DTs (X.blk s H scope (compEnvC scope cl C X.env) fp) W0 ifs tt)
    (he : ∀ (s : Shared) (H : Hp) (C : Addr) (cl : List (Str × Addr)) (fp : List Addr), DE (X.blk s H scope (compEnvC scope cl C X.env) fp) W0 elt te) (hs : ∀ x, foldedSetIterable iter X.env x = pure x := by intro _; rfl)
    (hy : X.N[i]? = some y := by rfl) (hyl : X.env.scope.names.lookup y = some .local := by rfl)
    (hsw : swapsWith (.ListComp elt [⟨tg, iter, ifs, 0⟩] scope pos) (some (.Name y py)) spos.line X.env = pure true := by exact sw_true rfl rfl rfl (by decide +kernel)) :
    DS X W (.Assign [.Name y py] (.ListComp elt [⟨tg, iter, ifs, 0⟩] scope pos) spos) (dSet i (dLc w p tt te (own.map (·.2)))) :=
  impS (ps_setLc hc hN hy hyl hsw hi ok hg ht he hs) fun De σ H ⟨z, ρ, M, Dd, hs, hm, h, L⟩ =>
    lc_read (R := fun acc M2 => Dd.nx (ρ.set i (some (.lst acc))) M2) hs hm h hp (fun acc M' v H' a b c d => L.nx _ _ _ _ a b ((hs.ext d).set i c) d) L.ex
theorem de_lcL (j : Nat) {x : Str} {px : Pos} (hc : X.calm = true) (hN : X.N.Nodup) (ok : BlkOk X.N X.env.scope scope own) (hp : ∀ i ∈ p.ns, i ∈ own.map (·.2))
    (hg : ∀ (s : Shared) (H : Hp) (C : Addr) (cl : List (Str × Addr)) (fp : List Addr), DG (X.blk s H scope (compEnvC scope cl C X.env) fp) tg p) (ht : ∀ (s : Shared) (H : Hp) (C : Addr) (cl : List (Str × Addr)) (fp : List Addr), DTs (X.blk s H scope (compEnvC scope cl C X.env) fp) W0 ifs tt)
    (he : ∀ (s : Shared) (H : Hp) (C : Addr) (cl : List (Str × Addr)) (fp : List Addr), DE (X.blk s H scope (compEnvC scope cl C X.env) fp) W0 elt te)
    (hx : X.N[j]? = some x := by rfl) (hv : Vis X.env.scope x := by first | exact Or.inl rfl | exact Or.inr (Or.inl rfl) | exact Or.inr (Or.inr rfl)) (hd : (x == ("__debug__" : Str)) = false := by decide) (hcd : (x == ("__classdict__" : Str)) = false := by decide)
    (hs : ∀ y, foldedSetIterable (.Name x px) X.env y = pure y := by intro _; rfl) :
    DE X W (.ListComp elt [⟨tg, .Name x px, ifs, 0⟩] scope pos) (dLcL j p tt te (own.map (·.2))) :=
  imp (pe_lc hc hN (pi_list (pe_var hx hv hd hcd)) ok hg ht he hs) fun σ H Q ⟨z, ρ, M, R, E, hs, hm, h, hc, hE⟩ => lc_readL hs hm h hp hc
theorem ds_setLcL (j i : Nat) {x y : Str} {px py spos : Pos} (hc : X.calm = true) (hN : X.N.Nodup) (ok : BlkOk X.N X.env.scope scope own) (hp : ∀ i ∈ p.ns, i ∈ own.map (·.2))
    (hg : ∀ (s : Shared) (H : Hp) (C : Addr) (cl : List (Str × Addr)) (fp : List Addr), DG (X.blk s H scope (compEnvC scope cl C X.env) fp) tg p) (ht : ∀ (s : Shared) (H : Hp) (C : Addr) (cl : List (Str × Addr)) (fp : List Addr), DTs (X.blk s H scope (compEnvC scope cl C X.env) fp) W0 ifs tt)
    (he : ∀ (s : Shared) (H : Hp) (C : Addr) (cl : List (Str × Addr)) (fp : List Addr), DE (X.blk s H scope (compEnvC scope cl C X.env) fp) W0 elt te)
    (hx : X.N[j]? = some x := by rfl) (hv : Vis X.env.scope x := by first | exact Or.inl rfl | exact Or.inr (Or.inl rfl) | exact Or.inr (Or.inr rfl)) (hd : (x == ("__debug__" : Str)) = false := by decide) (hcd : (x == ("__classdict__" : Str)) = false := by decide)
    (hs : ∀ y, foldedSetIterable (.Name x px) X.env y = pure y := by intro _; rfl)
    (hy : X.N[i]? = some y := by rfl) (hyl : X.env.scope.names.lookup y = some .local := by rfl)
    (hsw : swapsWith (.ListComp elt [⟨tg, .Name x px, ifs, 0⟩] scope pos) (some (.Name y py)) spos.line X.env = pure true := by exact sw_true rfl rfl rfl (by decide +kernel)) :
    DS X W (.Assign [.Name y py] (.ListComp elt [⟨tg, .Name x px, ifs, 0⟩] scope pos) spos) (dSet i (dLcL j p tt te (own.map (·.2)))) :=
  impS (ps_setLc hc hN hy hyl hsw (pi_list (pe_var hx hv hd hcd)) ok hg ht he hs) fun De σ H ⟨z, ρ, M, Dd, hs, hm, h, L⟩ =>
    lc_readL (R := fun d M2 => Dd.nx (ρ.set i (some d)) M2) hs hm h hp (fun acc M' v H' a b c d => L.nx _ _ _ _ a b ((hs.ext d).set i c) d)
end
end L2.DL
/-! DLf: built-ins, methods -/
namespace PySem.AutoSeq1
theorem extTupAny (l : Addr) (its : Array Value) (n : Nat) (b : Addr) (its2 : Array Value) (n2 : Nat) (dd : Option Addr) (ss : Array (Option Value))
    (q0 : ¬(!its.isEmpty && Builtin.List.listTooLong (its.size + its2.size)) = true) (q1 : its.size ≤ sizeLine) (q2 : its.size + its2.size ≤ sizeLine + 1) :
    Meets (Builtin.«list.extend» ⟨[.ref l, .ref b], []⟩) (fun _ R s => s.heap.get? l = some { cls := .type "list", dict := none, data := .seq its n, slots := #[] } ∧
      s.heap.get? b = some { cls := .type "tuple", dict := dd, data := .seq its2 n2, slots := ss } ∧ R (.ok (.ret Value.none)) { s with heap := s.heap.update l (Obj.mapSeq fun x => x ++ its2), toks := s.toks }) :=
  .of_wp fun prog w A R st hst => by
    obtain ⟨hp, g, d, tk, os⟩ := st
    obtain ⟨hl, hb, h⟩ := hst
    have g1 := idx_int
    have g2 := sub_tuple_tuple
    have g3 := sub_list_list
    have g4 := sub_tuple_list
    have g5 := sub_list_tuple
    have hfit : (its ++ its2).size ≤ sizeLine + 1 := by
      rw [Array.size_append]
      exact q2
    wp_walk using (wpAny_updateSeq hl rfl (hz := q1) (_hz' := hfit)), wpAny_loadPart' hl, wpAny_loadPart' hb
    exact ⟨_, rfl, h⟩
end PySem.AutoSeq1
namespace L2.DL
open PySem PySem.Spec PyProof.Rows
variable [Tbs]
section
variable {X : Cx} {W : WX} {a b c e o : Expr} {es : List Expr} {te to : DTE} {t : DTA} {pos apos cpos : Pos}
def CallD (X : Cx) (fv : Value) (f : List D → PD → MS → Prop) : Prop :=
  ∃ r, CallR X fv r ∧ ∀ z H M xs vs R Q, RelM ⟨X.K, z⟩ H M → RelA ⟨X.K, z⟩ H M vs xs → f xs R M → Cont ⟨X.K, z⟩ H M R Q → r vs H Q
def dCB (f : List D → PD → MS → Prop) (t : DTA) : DTE := fun ρ R E M => t ρ (fun xs M1 => f xs R M1) E M
theorem de_callB {id : String} {x : Str} {p : Pos} {f : List D → PD → MS → Prop} (o : CallD X (.builtin id) f) (hm : X.mg x = none) (hv : bootBuiltins x = some (.builtin id)) (ha : DA X W (e :: es) t) (hg : Gl X x := by rfl) (hn : x ≠ "__name__" := by decide) (hdb : (x == ("__debug__" : Str)) = false := by decide)
    (he : starEach (e :: es) X.env = (false, eval e X.env) :: starEach es X.env := by rfl) (hpl : (backTo pos (starEach es X.env)).any (·.1) = false := by rfl) : DE X W (.Call (.Name x p) (e :: es) [] pos) (dCB f t) := by
  obtain ⟨r, ho, ad⟩ := o
  exact imp (pe_callB ho hg hm hv ha hn hdb he hpl) fun σ H Q ⟨z, ρ, M, R, E, hs, hm, h, hc, hE⟩ =>
    ⟨z, ρ, M, _, E, hs, hm, h, fun xs M1 vs H1 h1 m1 r1 e1 => ad _ _ _ _ _ _ _ m1 r1 h1 (hc.ext e1), hE⟩
theorem de_callT {T : String} {x : Str} {p : Pos} {f : List D → PD → MS → Prop} (o : CallD X (.type T) f) (hm : X.mg x = none) (hv : bootBuiltins x = some (.type T)) (ha : DA X W (e :: es) t) (hg : Gl X x := by rfl) (hn : x ≠ "__name__" := by decide) (hdb : (x == ("__debug__" : Str)) = false := by decide)
    (he : starEach (e :: es) X.env = (false, eval e X.env) :: starEach es X.env := by rfl) (hpl : (backTo pos (starEach es X.env)).any (·.1) = false := by rfl) : DE X W (.Call (.Name x p) (e :: es) [] pos) (dCB f t) := by
  obtain ⟨r, ho, ad⟩ := o
  exact imp (pe_callTy ho hg hm hv ha hn hdb he hpl) fun σ H Q ⟨z, ρ, M, R, E, hs, hm, h, hc, hE⟩ =>
    ⟨z, ρ, M, _, E, hs, hm, h, fun xs M1 vs H1 h1 m1 r1 e1 => ad _ _ _ _ _ _ _ m1 r1 h1 (hc.ext e1), hE⟩
theorem CallD.or {fv : Value} {f g : List D → PD → MS → Prop} (h : CallD X fv f) (k : CallD X fv g) : CallD X fv (fun xs R M => f xs R M ∨ g xs R M) := by
  obtain ⟨r, h1, h2⟩ := h
  obtain ⟨r', k1, k2⟩ := k
  exact ⟨_, h1.or k1, fun z H M xs vs R Q m ra q hc => q.elim (fun q => .inl (h2 _ _ _ _ _ _ _ m ra q hc)) fun q => .inr (k2 _ _ _ _ _ _ _ m ra q hc)⟩

/-- len -/
def lenD : List D → PD → MS → Prop
  | [.tup ds], R, M => R (.int ds.length) M
  | [.lst ds], R, M => R (.int ds.length) M
  | [.scr ds], R, M => R (.int ds.length) M
  | [.str x], R, M => x.length ≤ sizeLine ∧ R (.int x.length) M
  | [.ref a], R, M => ∃ ds, M a = some (.lst ds) ∧ R (.int ds.length) M
  | _, _, _ => False
theorem c_len : CallD X (.builtin "len") lenD := by
  refine ⟨_, call_len_seq.or call_len_str, fun z H M xs vs R Q m ra h hc => ?_⟩
  unfold lenD at h
  split at h
  · cases ra with
    | cons x y =>
      cases y
      cases x with
      | tup s r => exact .inl ⟨_, _, rfl, .inr s, by rw [r.length]; exact hc.here h m (.int _)⟩
  · cases ra with
    | cons x y =>
      cases y
      cases x with
      | lst s r => exact .inl ⟨_, _, rfl, .inl s.sq, by rw [r.length]; exact hc.here h m (.int _)⟩
  · cases ra with
    | cons x y =>
      cases y
      cases x with
      | scr s => exact .inl ⟨_, _, rfl, .inl s.sq, by rw [List.length_map]; exact hc.here h m (.int _)⟩
  · cases ra with
    | cons x y =>
      cases y; cases x
      exact .inr ⟨_, rfl, h.1, hc.here h.2 m (.int _)⟩
  · cases ra with
    | cons x y =>
      cases y; cases x
      obtain ⟨ds, ea, q⟩ := h
      obtain ⟨ws, e1, r⟩ := m.at' _ _ ea
      exact .inl ⟨_, _, rfl, .inl (SqL.of e1), by rw [r.length]; exact hc.here q m (.int _)⟩
  · exact h.elim
def absD : List D → PD → MS → Prop
  | [.int i], R, M => R (.int (if i < 0 then -i else i)) M
  | _, _, _ => False
theorem c_abs : CallD X (.builtin "abs") absD := by
  refine ⟨_, call_abs, fun z H M xs vs R Q m ra h hc => ?_⟩
  unfold absD at h
  split at h
  · cases ra with
    | cons x y =>
      cases y; cases x
      exact ⟨_, rfl, hc.here h m (.int _)⟩
  · exact h.elim
/-- min, max: of two ints; of a list of ints -/
def lsInts (M : MS) (d : D) (ns : List Int) : Prop := Ls M d (ns.map D.int)
theorem lsInts_at {z : Hd} {H : Hp} {M : MS} {d : D} {ns : List Int} {v : V} (m : RelM ⟨X.K, z⟩ H M) (s : lsInts M d ns) (r : Rel ⟨X.K, z⟩ H M v d) : ∃ p, v = .ref p ∧ SqL X.K H p (ns.map V.int) := by
  obtain ⟨p, vs, e, h, ra⟩ := ls_at m s r
  exact ⟨p, e, by rw [← ra.ints]; exact SqL.of h⟩
def minD : List D → PD → MS → Prop
  | [.int i, .int j], R, M => R (.int (if j < i then j else i)) M
  | [d], R, M => ∃ ns, lsInts M d ns ∧ 0 < ns.length ∧ ∀ k, k ∈ ns → (∀ y, y ∈ ns → k ≤ y) → R (.int k) M
  | _, _, _ => False
def maxD : List D → PD → MS → Prop
  | [.int i, .int j], R, M => R (.int (if j > i then j else i)) M
  | [d], R, M => ∃ ns, lsInts M d ns ∧ 0 < ns.length ∧ ∀ k, k ∈ ns → (∀ y, y ∈ ns → y ≤ k) → R (.int k) M
  | _, _, _ => False
theorem c_min (hc : X.calm = true) : CallD X (.builtin "min") minD := by
  refine ⟨_, (call_min2 hc).or (cr_min hc), fun z H M xs vs R Q m ra h hc => ?_⟩
  unfold minD at h
  split at h
  · cases ra with
    | cons x y =>
      cases y with
      | cons y y2 =>
        cases x; cases y; cases y2
        exact .inl ⟨_, _, rfl, hc.here h m (.int _)⟩
  · cases ra with
    | cons x y =>
      cases y
      obtain ⟨ns, s, h0, q⟩ := h
      obtain ⟨p, rfl, s2⟩ := lsInts_at m s x
      exact .inr ⟨_, ns, rfl, s2, h0, fun k hk hl => hc.here (q k hk hl) m (.int _)⟩
  · exact h.elim
theorem c_max (hc : X.calm = true) : CallD X (.builtin "max") maxD := by
  refine ⟨_, (call_max2 hc).or (cr_max hc), fun z H M xs vs R Q m ra h hc => ?_⟩
  unfold maxD at h
  split at h
  · cases ra with
    | cons x y =>
      cases y with
      | cons y y2 =>
        cases x; cases y; cases y2
        exact .inl ⟨_, _, rfl, hc.here h m (.int _)⟩
  · cases ra with
    | cons x y =>
      cases y
      obtain ⟨ns, s, h0, q⟩ := h
      obtain ⟨p, rfl, s2⟩ := lsInts_at m s x
      exact .inr ⟨_, ns, rfl, s2, h0, fun k hk hl => hc.here (q k hk hl) m (.int _)⟩
  · exact h.elim
def sumD : List D → PD → MS → Prop
  | [d], R, M => ∃ ns, lsInts M d ns ∧ R (.int ns.sum) M
  | _, _, _ => False
theorem c_sum (hc : X.calm = true) : CallD X (.builtin "sum") sumD := by
  refine ⟨_, cr_sum hc, fun z H M xs vs R Q m ra h hc => ?_⟩
  unfold sumD at h
  split at h
  · cases ra with
    | cons x y =>
      cases y
      obtain ⟨ns, s, q⟩ := h
      obtain ⟨p, rfl, s2⟩ := lsInts_at m s x
      exact ⟨_, ns, rfl, s2, hc.here q m (.int _)⟩
  · exact h.elim
def lsBls (M : MS) (d : D) (bs : List Bool) : Prop := Ls M d (bs.map D.bl)
theorem lsBls_at {z : Hd} {H : Hp} {M : MS} {d : D} {ns : List Bool} {v : V} (m : RelM ⟨X.K, z⟩ H M) (s : lsBls M d ns) (r : Rel ⟨X.K, z⟩ H M v d) : ∃ p, v = .ref p ∧ SqL X.K H p (ns.map V.bl) := by
  obtain ⟨p, vs, e, h, ra⟩ := ls_at m s r
  exact ⟨p, e, by rw [← ra.bls]; exact SqL.of h⟩
def allD : List D → PD → MS → Prop
  | [d], R, M => ∃ bs, lsBls M d bs ∧ R (.bl (bs.all id)) M
  | _, _, _ => False
def anyD : List D → PD → MS → Prop
  | [d], R, M => ∃ bs, lsBls M d bs ∧ R (.bl (bs.any id)) M
  | _, _, _ => False
theorem c_all (hc : X.calm = true) : CallD X (.builtin "all") allD := by
  refine ⟨_, cr_all hc, fun z H M xs vs R Q m ra h hc => ?_⟩
  unfold allD at h
  split at h
  · cases ra with
    | cons x y =>
      cases y
      obtain ⟨ns, s, q⟩ := h
      obtain ⟨p, rfl, s2⟩ := lsBls_at m s x
      exact ⟨_, ns, rfl, s2, hc.here q m (.bl _)⟩
  · exact h.elim
theorem c_any (hc : X.calm = true) : CallD X (.builtin "any") anyD := by
  refine ⟨_, cr_any hc, fun z H M xs vs R Q m ra h hc => ?_⟩
  unfold anyD at h
  split at h
  · cases ra with
    | cons x y =>
      cases y
      obtain ⟨ns, s, q⟩ := h
      obtain ⟨p, rfl, s2⟩ := lsBls_at m s x
      exact ⟨_, ns, rfl, s2, hc.here q m (.bl _)⟩
  · exact h.elim
def intD : List D → PD → MS → Prop
  | [.int i], R, M => R (.int i) M
  | [.bl k], R, M => R (.int (if k then 1 else 0)) M
  | _, _, _ => False
theorem c_int : CallD X (.type "int") intD := by
  refine ⟨_, call_int1, fun z H M xs vs R Q m ra h hc => ?_⟩
  unfold intD at h
  split at h
  · cases ra with
    | cons x y =>
      cases y; cases x
      exact .inl ⟨_, rfl, hc.here h m (.int _)⟩
  · cases ra with
    | cons x y =>
      cases y; cases x
      exact .inr ⟨_, rfl, hc.here h m (.int _)⟩
  · exact h.elim
/-- tuple(..), list(..) of a list or a tuple -/
def Sq (M : MS) : D → List D → Prop
  | .tup ds, e => e = ds
  | d, e => Ls M d e
theorem Sq.ls {M : MS} {d : D} {ds : List D} (h : Sq M d ds) (n : ∀ es, d ≠ .tup es) : Ls M d ds := by
  cases d with
  | tup es => exact absurd rfl (n es)
  | _ => exact h
def tupD : List D → PD → MS → Prop
  | [d], R, M => ∃ ds, Sq M d ds ∧ R (.tup ds) M
  | _, _, _ => False
def lstD : List D → PD → MS → Prop
  | [d], R, M => ∃ ds, Sq M d ds ∧ R (.lst ds) M
  | _, _, _ => False
def lstND : List D → PD → MS → Prop
  | [d], R, M => ∃ ds, Sq M d ds ∧ ∀ p, M p = none → R (.ref p) (um M p (.lst ds))
  | _, _, _ => False
theorem sq_at {K : ZK} {H : Hp} {M : MS} {d : D} {ds : List D} {v : V} (m : RelM K H M) (s : Sq M d ds) (r : Rel K H M v d) : ∃ p vs, v = .ref p ∧ (SqL K.K H p vs ∨ (SqT K.K H p vs ∧ d = .tup ds)) ∧ RelA K H M vs ds := by
  cases d with
  | tup es =>
    have s' : ds = es := s
    subst s'
    cases r with
    | tup a b => exact ⟨_, _, rfl, .inr ⟨a, rfl⟩, b⟩
  | _ =>
    obtain ⟨p, vs, e, h, ra⟩ := ls_at (ds := ds) m (s.ls fun _ z => (nomatch z)) r
    exact ⟨p, vs, e, .inl (SqL.of h), ra⟩
theorem c_tup : CallD X (.type "tuple") tupD := by
  refine ⟨_, call_tuple_of, fun z H M xs vs R Q m ra h hc => ?_⟩
  unfold tupD at h
  split at h
  · cases ra with
    | cons x y =>
      cases y
      obtain ⟨ds, s, q⟩ := h
      obtain ⟨p, ws, rfl, sq, r⟩ := sq_at m s x
      refine ⟨p, ws, rfl, ?_⟩
      rcases sq with sq | ⟨sq, e⟩
      · exact .inl ⟨sq, fun l hl => hc _ _ _ _ q (relM_new m hl) (.tup (SqT.of upd_same) ((ext_new m hl).all r)) (ext_new m hl)⟩
      · subst e
        exact .inr ⟨sq, hc.here q m x⟩
  · exact h.elim
theorem c_lst : CallD X (.type "list") lstD := by
  refine ⟨_, call_list_of, fun z H M xs vs R Q m ra h hc => ?_⟩
  unfold lstD at h
  split at h
  · cases ra with
    | cons x y =>
      cases y
      obtain ⟨ds, s, q⟩ := h
      obtain ⟨p, ws, rfl, sq, r⟩ := sq_at m s x
      exact ⟨p, ws, rfl, sq.elim .inl fun k => .inr k.1, fun l hl => hc _ _ _ _ q (relM_new m hl) (.lst (fz_new m hl) ((ext_new m hl).all r)) (ext_new m hl)⟩
  · exact h.elim
theorem c_lstN : CallD X (.type "list") lstND := by
  refine ⟨_, call_list_of, fun z H M xs vs R Q m ra h hc => ?_⟩
  unfold lstND at h
  split at h
  · cases ra with
    | cons x y =>
      cases y
      obtain ⟨ds, s, q⟩ := h
      obtain ⟨p, ws, rfl, sq, r⟩ := sq_at m s x
      exact ⟨p, ws, rfl, sq.elim .inl fun k => .inr k.1, fun l hl => hc _ _ _ _ (q l (m.free hl)) (alloc_lst m hl r) (.ref l) (ext_alloc m hl)⟩
  · exact h.elim
/-- repr -/
def reprOk (p : PyData) : Prop := p.showable = true ∧ p.canLay0 = true ∧ p.shown.length ≤ sizeLine ∧ p.depth ≤ 60
def reprD : List D → PD → MS → Prop
  | [d], R, M => ∃ e, Sees M d e ∧ isP e = true ∧ reprOk (pd e) ∧ R (.str (pd e).shown) M
  | _, _, _ => False
theorem c_repr (hG : X.A.guards = some []) (hu : X.A.units + 64 < cLine) : CallD X (.builtin "repr") reprD := by
  refine ⟨fun vs H Q => ∃ v p, vs = [v] ∧ Dp X.K H v p ∧ reprOk p ∧ Q (.str p.shown) H, ?_, fun z H M xs vs R Q m ra h hc => ?_⟩
  · intro pins s σ H xs us Q I r h
    obtain ⟨v, p, rfl, hd, ⟨h1, h2, h3, h4⟩, q⟩ := h
    obtain ⟨u, rfl, ru⟩ := vals1 r
    obtain ⟨as, hr⟩ := Dp.reads I p v u hd ru
    have nd := PyData.hasDict_of_canLay p h2
    cases hd with
    | non => cases ru; exact PySem.P.repr_of_none ⟨.str _, H, I.tok _, ⟨_, rfl⟩, q⟩
    | bl b =>
      cases ru
      refine PySem.P.repr_of_bool ⟨.str _, H, I.tok _, ⟨_, rfl⟩, ?_⟩
      cases b <;> exact q
    | int i =>
      obtain ⟨t, rfl⟩ := ru
      exact PySem.P.repr_of_int (by simpa [PyData.showable] using h1) ⟨.str _, H, I.tok _, ⟨_, rfl⟩, q⟩
    | str x =>
      obtain ⟨t, rfl⟩ := ru
      exact PySem.P.repr_of_str ⟨.str _, H, I.tok _, ⟨_, rfl⟩, q⟩ (by simpa [PyData.shown] using h3)
    | lst sq ra =>
      cases ru
      exact repr_of_reads' hr h1 (PyData.noDict_hsm nd) hG (by omega) (fun _ _ e => e) (fun h' u tk k => ⟨.str _, H, I.kept k, ⟨_, rfl⟩, q⟩) h3
    | tup sq ra =>
      cases ru
      exact repr_of_reads' hr h1 (PyData.noDict_hsm nd) hG (by omega) (fun _ _ e => e) (fun h' u tk k => ⟨.str _, H, I.kept k, ⟨_, rfl⟩, q⟩) h3
  · unfold reprD at h
    split at h
    · cases ra with
      | cons x y =>
        cases y
        obtain ⟨e, s, ip, ok, q⟩ := h
        exact ⟨_, _, rfl, dp_sees m s ip x, ok, hc.here q m (.str _)⟩
    · exact h.elim

/-! ### methods of lists of the store -/
def MtD (X : Cx) (id : String) (f : D → List D → PD → MS → Prop) : Prop :=
  ∃ r, MtR X id r ∧ ∀ z H M x xs v vs R Q, RelM ⟨X.K, z⟩ H M → Rel ⟨X.K, z⟩ H M v x → RelA ⟨X.K, z⟩ H M vs xs → f x xs R M → Cont ⟨X.K, z⟩ H M R Q → r v vs H Q
def isL (M : MS) : D → Prop
  | .ref a => ∃ ds, M a = some (.lst ds)
  | .lst _ => True
  | _ => False
def dMt (f : D → List D → PD → MS → Prop) (to : DTE) (t : DTA) : DTE := fun ρ R E M => to ρ (fun x M1 => isL M1 x ∧ t ρ (fun xs M2 => f x xs R M2) E M1) E M
theorem isL_at {K : ZK} {H : Hp} {M : MS} {d : D} {v : V} (m : RelM K H M) (s : isL M d) (r : Rel K H M v d) : tyV K.K "list" v H := by
  cases d with
  | ref a =>
    cases r
    obtain ⟨ds, e⟩ := s
    obtain ⟨vs, e2, _⟩ := m.at' _ _ e
    exact .inl ⟨rfl, _, SqL.of e2⟩
  | lst ds =>
    cases r with
    | lst a b => exact .inl ⟨rfl, _, a.sq⟩
  | _ => exact (show False from s).elim
theorem de_mtL {name : Str} {id : String} {f : D → List D → PD → MS → Prop} (slot : Slot "list" name id) (hty : typeOf (.builtin id) = pure (.type "method_descriptor")) (hm : MtD X id f) (ho : DE X W o to) (ha : DA X W (e :: es) t)
    (hbase : attributeBase o name X.env (eval o X.env) = eval o X.env := by rfl)
    (hfew : ((backTo cpos (starEach (e :: es) X.env)).all (fun x => !x.1) && (backToKw cpos (keywordEach [] X.env)).all (fun x => x.1.isSome)
      && decide ((e :: es).length + ([] : List Keyword).length + (if ([] : List Keyword).isEmpty then 0 else 1) < 30)) = true := by rfl)
    (hline : (apos.endLine == cpos.line) = true := by rfl) (hs : starEach (e :: es) X.env = (false, eval e X.env) :: starEach es X.env := by rfl) (hplain : (backTo cpos (starEach es X.env)).any (·.1) = false := by rfl) :
    DE X W (.Call (.Attribute o name apos) (e :: es) [] cpos) (dMt f to t) := by
  obtain ⟨r, hr, ad⟩ := hm
  exact imp (pe_bm PySem.F.plainAttrs_list slot hty hr ho ha hbase hfew hline hs hplain) fun σ H Q ⟨z, ρ, M, R, E, hs, hm, h, hc, hE⟩ =>
    ⟨z, ρ, M, _, E, hs, hm, h, fun x M1 v H1 h1 m1 r1 e1 => ⟨isL_at m1 h1.1 r1, z, ρ, M1, _, E, hs.ext e1, m1, h1.2, fun xs M2 vs H2 h2 m2 r2 e2 => ad _ _ _ _ _ _ _ _ _ m2 (e2 _ _ r1) r2 h2 (hc.ext (e1.trans e2)), hE.ext e1⟩, hE⟩
def appD : D → List D → PD → MS → Prop
  | .ref a, [y], R, M => ∃ ds, M a = some (.lst ds) ∧ ds.length < sizeLine ∧ R .non (um M a (.lst (ds ++ [y])))
  | _, _, _, _ => False
theorem write_lst {K : ZK} {H : Hp} {M : MS} {a : Addr} {ds es : List D} {vs : List V} (m : RelM K H M) (ea : M a = some (.lst es)) (r : RelA K H M vs ds) : RelM K (upd H a (.lst vs)) (um M a (.lst ds)) :=
  relM_write m ea ⟨vs, upd_same, (ext_write m ea).all r⟩
theorem m_append : MtD X "list.append" appD := by
  refine ⟨_, mt_append, fun z H M x xs v vs R Q m rx ra h hc => ?_⟩
  unfold appD at h
  split at h
  · cases rx
    cases ra with
    | cons r1 r2 =>
      cases r2
      obtain ⟨ds, ea, hz, q⟩ := h
      obtain ⟨ws, e1, r⟩ := m.at' _ _ ea
      exact ⟨_, ws, _, rfl, rfl, e1, by rw [r.length]; exact hz, hc _ _ _ _ q (write_lst m ea (r.append (.cons r1 .nil))) .non (ext_write m ea)⟩
  · exact h.elim
theorem mt_extendT : MtR X "list.extend" (fun x vs H Q => ∃ l b xs zs, x = .ref l ∧ vs = [.ref b] ∧ H l = some (.lst xs) ∧ SqT X.K H b zs ∧ xs.length + zs.length ≤ sizeLine ∧ Q .non (upd H l (.lst (xs ++ zs)))) := by
  intro pins s σ H x vs v us Q I rx rv h
  obtain ⟨l, b, xs, zs, rfl, rfl, hH, hB, hz, q⟩ := h
  cases rx
  obtain ⟨u, rfl, ru⟩ := rv.one
  cases ru
  obtain ⟨zl, its, n, r, hl, e⟩ := I.lstM hH
  obtain ⟨its2, r2, ⟨ob, e2, c2, n2, d2⟩, z2⟩ := I.tuple hB
  have l1 := r.length
  have l2 := r2.length
  obtain ⟨oc, od, odata, osl⟩ := ob
  cases c2
  cases d2
  have fit : its.toArray.size + its2.toArray.size ≤ sizeLine := by simp only [List.size_toArray]; omega
  have short : ¬ (!its.toArray.isEmpty && Builtin.List.listTooLong (its.toArray.size + its2.toArray.size)) = true := by
    rw [notLongL fit, Bool.and_false]
    exact Bool.false_ne_true
  refine call_meets F.slot_list_extend ⟨_, e, rfl⟩ F.entry_list_extend (F.args_list_extend_2 _ _) (AutoSeq1.extTupAny l its.toArray n b its2.toArray n2 od osl short (by simp only [List.size_toArray]; omega) (by omega)) ⟨e, e2, ?_⟩
  exact ⟨.non, _, I.lset (its' := its ++ its2) hH e (by simp) (r.append r2) (by rw [List.length_append]; omega), rfl, q⟩
def extD : D → List D → PD → MS → Prop
  | .ref a, [y], R, M => ∃ ds es, M a = some (.lst ds) ∧ Sq M y es ∧ ds.length + es.length ≤ sizeLine ∧ R .non (um M a (.lst (ds ++ es)))
  | _, _, _, _ => False
theorem m_extend : MtD X "list.extend" extD := by
  refine ⟨_, (show MtR X "list.extend" rExtend from mt_extend).or mt_extendT, fun z H M x xs v vs R Q m rx ra h hc => ?_⟩
  cases x with
  | ref a =>
    cases xs with
    | nil => exact (show False from h).elim
    | cons y ys =>
      cases ys with
      | cons _ _ => exact (show False from h).elim
      | nil =>
        cases rx
        cases ra with
        | cons r1 r2 =>
          cases r2
          obtain ⟨ds, es, ea, sq, hz, q⟩ := h
          obtain ⟨ws, e1, r⟩ := m.at' _ _ ea
          obtain ⟨p, us, rfl, sq2, rt⟩ := sq_at m sq r1
          rcases sq2 with sq2 | ⟨sq2, _⟩
          · cases y with
            | tup fs =>
              cases r1 with
              | tup st rt2 =>
                have s' : es = fs := sq
                subst s'
                exact .inr ⟨_, _, ws, _, rfl, rfl, e1, st, by rw [r.length, rt2.length]; exact hz, hc _ _ _ _ q (write_lst m ea (r.append rt2)) .non (ext_write m ea)⟩
            | _ =>
              obtain ⟨p, us, e, h, rt⟩ := ls_at (ds := es) m (sq.ls fun _ z => (nomatch z)) r1
              cases e
              exact .inl ⟨_, _, ws, _, rfl, rfl, e1, h, by rw [r.length, rt.length]; exact hz, hc _ _ _ _ q (write_lst m ea (r.append rt)) .non (ext_write m ea)⟩
          · exact .inr ⟨_, _, ws, _, rfl, rfl, e1, sq2, by rw [r.length, rt.length]; exact hz, hc _ _ _ _ q (write_lst m ea (r.append rt)) .non (ext_write m ea)⟩
  | _ => exact (show False from h).elim
end
end L2.DL
/-! DLg: defs: what they promise, their calls, the law's own end -/
namespace L2.DL
open PySem PySem.Spec PyProof.Rows
variable [Tbs]

abbrev G := List D → PD → (Ex → MS → Prop) → MS → Prop
def spD (F : PySem.W.Frag) (g : G) : Sp := fun vs H Q E => ∃ (z : Hd) (ds : List D) (M : MS) (R : PD) (RE : Ex → MS → Prop), RelA ⟨F, z⟩ H M vs ds ∧ RelM ⟨F, z⟩ H M ∧ g ds R RE M ∧ Cont ⟨F, z⟩ H M R Q ∧
  ∀ x M' cls d H', RE x M' → RelM ⟨F, z⟩ H' M' → RelX ⟨F, z⟩ H' M' cls d x → Ext ⟨F, z⟩ H M H' M' → E cls d H'
/-- as FnOk, where no repr runs around -/
structure FnD (P : Program) (w : World) (F : PySem.W.Frag) (mg : Str → Option Value) (base : Heap) (k : Nat) (f : Addr) (fd : FuncData) (ps : List Str) (g : G) : Prop where
  len : ∀ ds R E M, g ds R E M → ds.length = ps.length
  run : ∀ (A : Around) (outer : List Env) (s : Shared) (H : Hp) (args : Args) (us : List Value) (vs : List V) (Q : VK) (E : XK), Room k A → A.guards = some [] → Env0 P w F mg base A outer s H →
    BindsTo s fd args (ps.zip us) → Vals vs us → spD F g vs H Q E → codeAny (model P w) A (.call (.ref f) args) (CR (L2.CX P w) outer P w H s Q E) s

/-- what is told may be told with less of the store -/
def Wk (M : MS) (d : D) (M' : MS) (d' : D) : Prop := Le M' M ∧ ∀ K H v, RelM K H M → Rel K H M v d → Rel K H M' v d'
theorem Wk.refl (M : MS) (d : D) : Wk M d M d := ⟨Le.refl M, fun _ _ _ _ r => r⟩
theorem Wk.le {M M' : MS} {d : D} (l : Le M' M) : Wk M d M' d := ⟨l, fun _ _ v _ r => Ext.le l v d r⟩
theorem Wk.frz {M M' : MS} {a : Addr} {ds : List D} (l : Le M' M) (ea : M a = some (.lst ds)) (na : M' a = none) : Wk M (.ref a) M' (.lst ds) := by
  refine ⟨l, fun K H v m r => ?_⟩
  cases r
  obtain ⟨vs, e, ra⟩ := m.at' a _ ea
  refine .lst ⟨⟨na, ?_⟩, e⟩ ((Ext.le l).all ra)
  cases q : K.hid a with
  | none => rfl
  | some ws =>
    have z := (m.hid a ws q).1
    rw [ea] at z; cases z
/-- pairs of such -/
theorem Wk.tup2 {M M' : MS} {a b a' b' : D} (h : Wk M a M' a') (k : Wk M b M' b') : Wk M (.tup [a, b]) M' (.tup [a', b']) := by
  refine ⟨h.1, fun K H v m r => ?_⟩
  cases r with
  | tup s ra =>
    cases ra with
    | cons r1 ra =>
      cases ra with
      | cons r2 ra =>
        cases ra
        exact .tup s (.cons (h.2 K H _ m r1) (.cons (k.2 K H _ m r2) .nil))
def Rw (R : PD) (d : D) (M : MS) : Prop := ∃ d' M', Wk M d M' d' ∧ R d' M'
theorem Rw.of {R : PD} {d : D} {M : MS} (h : R d M) : Rw R d M := ⟨d, M, Wk.refl M d, h⟩
theorem Rw.le {R : PD} {d : D} {M M' : MS} (h : R d M') (l : Le M' M) : Rw R d M := ⟨d, M', Wk.le l, h⟩
theorem Rw.frz {R : PD} {a : Addr} {ds : List D} {M M' : MS} (h : R (.lst ds) M') (l : Le M' M) (ea : M a = some (.lst ds)) (na : M' a = none) : Rw R (.ref a) M := ⟨_, M', Wk.frz l ea na, h⟩
def ends (R : PD) (RE : Ex → MS → Prop) : DEnds where
  nx := fun _ M => Rw R .non M
  rt := Rw R
  ex := fun x _ M => ∃ M', Le M' M ∧ RE x M'
theorem relX_le {K : ZK} {H : Hp} {M M' : MS} {cls : Value} {d : Option Addr} {x : Ex} (l : Le M' M) (r : RelX K H M cls d x) : RelX K H M' cls d x := by
  obtain ⟨e, dx, gs, h1, h2, h0, h3⟩ := r
  refine ⟨e, dx, gs, h1, h2, ?_, (Ext.le l).keys h3⟩
  cases q : M' dx with
  | none => rfl
  | some u => rw [l dx u q] at h0; cases h0

section
variable {P : Program} {w : World} {K : PySem.W.Frag} {mg : Str → Option Value} {base : Heap}
abbrev WB (E : XK) : WX := fun cls d _ H => E cls d H
/-- THE RULE for a def: its body read over data -/
theorem FnD.of {x qual : Str} {st : Stmt} {f : Addr} {fd : FuncData} {N ps : List Str} {k : Nat} {g : G} {tb : DTS} (F : L2.Fun K x qual st f fd) (S : FnScope N ps (defScope st)) (len : ∀ ds R E M, g ds R E M → ds.length = ps.length)
    (hb : ∀ (cdv : Value) (A : Around) (outer : List Env) (s : Shared) (H : Hp) (E : XK), Room k (A.deeper (envOfC qual (defScope st) s.heap.objs.size f cdv)) → (A.deeper (envOfC qual (defScope st) s.heap.objs.size f cdv)).guards = some [] →
      DSs (cxOf (L2.CX P w) P w K mg base N qual (defScope st) f cdv A outer s H E) (WB E) (defBody st) tb)
    (hg : ∀ ds R RE M, g ds R RE M → tb (ends R RE) (startD N ds) M) : FnD P w K mg base (k + 1) f fd ps g := by
  obtain ⟨oc, od, kV, doc, pm, an, cdv, ct, osl, rfl, lk, hcd⟩ := F.ex
  refine ⟨len, fun A outer s H args us vs Q E hr hG e0 hbd r hsp => ?_⟩
  obtain ⟨z, ds, M, R, RE, ra, rm, hgg, hcont, hex⟩ := hsp
  have hl : vs.length = ps.length := ra.length.trans (len _ _ _ _ hgg)
  have nl : ds.length ≤ N.length := by
    have z := congrArg List.length S.pre
    rw [List.length_take] at z
    have z2 := len _ _ _ _ hgg
    omega
  have kx : K.In s.heap := e0.mod.kin.keeps fun b o e => (e0.bs b o e).1
  have nolim : s.heap.NoLimit := e0.mod.nolimit.keeps fun b o e => (e0.bs b o e).1
  have kinds : ∀ y ∈ ps.zip us, (defScope st).names.lookup y.1 = some .local ∨ ((defScope st).names.lookup y.1 = some .cell ∧ ((cellsFrom (s.heap.objs.size + 1) (defScope st).names []).lookup y.1).isSome = true) := by
    rintro ⟨n, v⟩ hy
    rcases S.par n (List.of_mem_zip hy).1 with q | q
    · exact .inl q
    · exact .inr ⟨q, PySem.W.cellsFrom_some _ _ _ (.inl q)⟩
  refine codeAny_call_function hr.depth (kx _ _ lk) rfl S.co S.gen rfl (PySem.W.codeRec_of kx hcd) (hbd _ _ _ _ ?_)
  refine wpAny_newFunctionEnv_cells S.kind kinds fun env he s1 xc => ?_
  subst he
  refine ⟨nolim.keeps xc.toInCall.keep, codeAny_func ?_⟩
  have T := hb cdv A outer s H E (hr.deeper _) hG
  have I : Inv (cxOf (L2.CX P w) P w K mg base N qual (defScope st) f cdv A outer s H E) [] (L2.start N vs) H s1 := inv_start S hr.hd e0 hl r xc
  have reading : liftS K (WB E) tb { nx := fun _ H' => Q .non H', rt := Q } (L2.start N vs) H := by
    refine ⟨z, startD N ds, M, ends R RE, relS_start ra nl, rm, hg ds R RE M hgg, ?_, ?_, ?_, ?_, ?_⟩
    · rintro ρ' M' σ' H' ⟨d', M2, wk, q⟩ m s e
      exact hcont d' M2 .non H' q (m.le wk.1) (wk.2 _ H' _ m .non) (e.trans (Ext.le wk.1))
    · rintro d M' v H' ⟨d', M2, wk, q⟩ m r e
      exact hcont d' M2 v H' q (m.le wk.1) (wk.2 _ H' _ m r) (e.trans (Ext.le wk.1))
    · intro _ _ _ _ q
      exact q.elim
    · intro _ _ _ _ q
      exact q.elim
    · rintro x ρ' M' cls d σ' H' ⟨M2, l, q⟩ m s rx e
      exact hex x M2 cls d H' q (m.le l) (relX_le l rx) (e.trans (Ext.le l))
  refine wpAny_mono (T.run [] s1 (L2.start N vs) H _ I reading) (fun fl s' hs => ?_) fun e s' hs => hs
  have fin : ∀ {σ' : St} {H' : Hp} {v : V} {u : Value}, Inv (cxOf (L2.CX P w) P w K mg base N qual (defScope st) f cdv A outer s H E) [] σ' H' s' → RelV v u → Q v H' → CE outer P w H s Q u s' :=
    fun {σ' H' v u} J rv q => ⟨v, H', J.os, J.bare, J.base, J.hok, rv, q⟩
  cases fl with
  | ret u =>
    obtain ⟨v, σ', H', J, rv, q⟩ := hs
    exact fin J rv q
  | next =>
    obtain ⟨σ', H', J, q⟩ := hs
    exact fin (v := .non) (u := .none) J rfl q
  | brk => exact (let ⟨_, _, _, q⟩ := hs; q.elim)
  | cont => exact (let ⟨_, _, _, q⟩ := hs; q.elim)
/-- a weaker promise -/
theorem FnD.imp {f : Addr} {fd : FuncData} {ps : List Str} {k : Nat} {g g' : G} (F : FnD P w K mg base k f fd ps g) (h : ∀ ds R E M, g' ds R E M → g ds R E M) : FnD P w K mg base k f fd ps g' :=
  ⟨fun ds R E M q => F.len ds R E M (h _ _ _ _ q), fun A outer s H args us vs Q E hr hG e0 hb hv ⟨z, ds, M, R, RE, a, b, c, d, e⟩ => F.run A outer s H args us vs Q E hr hG e0 hb hv ⟨z, ds, M, R, RE, a, b, h _ _ _ _ c, d, e⟩⟩
theorem FnD.mono {f : Addr} {fd : FuncData} {ps : List Str} {j k : Nat} {g : G} (F : FnD P w K mg base j f fd ps g) (h : j ≤ k) : FnD P w K mg base k f fd ps g :=
  ⟨F.len, fun A outer s H args us vs Q E hr => F.run A outer s H args us vs Q E (hr.mono h)⟩

/-- a def of the text by its name -/
structure Tx (K : PySem.W.Frag) (mg : Str → Option Value) (x : Str) (st : Stmt) : Prop where
  ex : ∃ f fd, mg x = some (.ref f) ∧ L2.Fun K x x st f fd
/-- a def of the text, with what it promises -/
structure Df (P : Program) (w : World) (K : PySem.W.Frag) (mg : Str → Option Value) (base : Heap) (x : Str) (ps : List Str) (k : Nat) (g : G) : Prop where
  ex : ∃ f fd, mg x = some (.ref f) ∧ PySem.W.keepIn K (.ref f) = true ∧ Binds K fd ps [] ∧ FnD P w K mg base k f fd ps g
theorem Df.of {x : Str} {st : Stmt} {N ps : List Str} {k : Nat} {g : G} {tb : DTS} (T : Tx K mg x st) (S : FnScope N ps (defScope st))
    (bd : ∀ (kV doc pm : Value) (an : Option Addr) (cdv ct : Value) (us : List Value), us.length = ps.length → bindArgs (PySem.W.fnOf x x (defArgs st) (defBody st) (defScope st) .none kV doc pm an cdv ct) ⟨us, []⟩ = pure (ps.zip us))
    (len : ∀ ds R E M, g ds R E M → ds.length = ps.length)
    (hb : ∀ (f : Addr) (cdv : Value) (A : Around) (outer : List Env) (s : Shared) (H : Hp) (E : XK), Room k (A.deeper (envOfC x (defScope st) s.heap.objs.size f cdv)) → (A.deeper (envOfC x (defScope st) s.heap.objs.size f cdv)).guards = some [] →
      DSs (cxOf (L2.CX P w) P w K mg base N x (defScope st) f cdv A outer s H E) (WB E) (defBody st) tb)
    (hg : ∀ ds R RE M, g ds R RE M → tb (ends R RE) (startD N ds) M) : Df P w K mg base x ps (k + 1) g := by
  obtain ⟨f, fd, h1, F⟩ := T.ex
  exact ⟨f, fd, h1, F.kp, F.binds bd, FnD.of F S len (hb f) hg⟩
theorem Df.imp {x : Str} {ps : List Str} {k : Nat} {g g' : G} (D : Df P w K mg base x ps k g) (h : ∀ ds R E M, g' ds R E M → g ds R E M) : Df P w K mg base x ps k g' := by
  obtain ⟨f, fd, h1, h2, h3, F⟩ := D.ex
  exact ⟨f, fd, h1, h2, h3, F.imp h⟩
end
section
variable {X : Cx} {W : WX} {e : Expr} {es : List Expr} {t : DTA} {g : G} {x : Str} {ps : List Str} {k : Nat} {p pos : Pos}
def dCall (g : G) (t : DTA) : DTE := fun ρ R E M => t ρ (fun ds M1 => g ds R (fun x M' => E x ρ M') M1) E M
theorem de_call (dd : Df X.prog X.w X.K X.mg X.base x ps k g) (hr : Room k X.A) (hG : X.A.guards = some []) (tk : Takes X W) (ha : DA X W (e :: es) t) (hg : Gl X x := by rfl)
    (hdb : (x == ("__debug__" : Str)) = false := by decide) (he : starEach (e :: es) X.env = (false, eval e X.env) :: starEach es X.env := by rfl) (hpl : (backTo pos (starEach es X.env)).any (·.1) = false := by rfl) :
    DE X W (.Call (.Name x p) (e :: es) [] pos) (dCall g t) := by
  obtain ⟨f, fd, hm, hk, hb, F⟩ := dd.ex
  refine ⟨fun pins s σ H Q I ⟨z, ρ, M, R, E, hs, hm2, h, hc, hE⟩ => ?_⟩
  refine wpAny_Call_Name_kw (ld_glob I hg hm ?_ hdb)
  refine PySem.W.callWith_K (h₀ := X.base) I.ok.mod.kin hk (thn (ha.run pos pins s σ H (fun vs H1 => spD X.K g vs H1 Q fun cls d H' => W cls d σ H') I
    ⟨z, ρ, M, _, E, hs, hm2, h, fun ds M1 vs H1 h1 m1 r1 e1 => ⟨z, ds, M1, R, _, r1, m1, h1, hc.ext e1, fun x M' cls d H' a b c f => hE x ρ M' cls d σ H' a b (hs.ext (e1.trans f)) c (e1.trans f)⟩, hE⟩) fun us s1 ⟨vs, H1, I1, r, q⟩ => ⟨I1.kIn, ?_⟩) he hpl
  have hl : us.length = ps.length := by
    obtain ⟨z, ds, M1, R1, RE, ra, _, gg, _⟩ := q
    rw [← r.length, ra.length]
    exact F.len _ _ _ _ gg
  have bb := hb s1 us I1.kIn (by rw [List.append_nil]; exact hl)
  rw [List.append_nil] at bb
  refine wpAny_call (codeAny_mono (F.run X.A X.stack s1 H1 ⟨us, []⟩ us vs Q _ hr hG I1.env0 bb r q) fun res s' hq => ?_)
  cases res with
  | error e' => exact passAt tk σ pins H1 s1 e' s' I1 hq
  | ok fl =>
    cases fl with
    | ret u => exact I1.after hq
    | next => exact False.elim hq
    | brk => exact False.elim hq
    | cont => exact False.elim hq
end

/-! ### the law's end -/
/-- the law's promise at the head: of any script it gives True -/
def gLaw (g : G) : Prop := ∀ ns : List Int, ns.length ≤ 63 → g [.scr ns] (fun d _ => d = .bl true) (fun _ _ => False) (fun _ => none)
theorem law_endD {P : Program} {w : World} {K : PySem.W.Frag} {mg mb : Str → Option Value} {k : Nat} {fa a : Addr} {fd : FuncData} {x : Str} {g : G} {s₁ : Shared} {vs : List Value} {ns : List Int}
    (KX : K.In s₁.heap) (hns : s₁.heap.Ns mainGlobals mg) (hb : s₁.heap.Ns builtinsNs mb) (hbb : ∀ x : Str, x ≠ "__name__" → mb x = bootBuiltins x) (hlim : s₁.heap.NoLimit) (hg : s₁.gens = #[])
    (ha : s₁.heap.get? a = some { cls := .type "list", data := .seq vs.toArray }) (hi : IntsAre vs ns) (hl : ns.length ≤ 63) (hr : Room k callerA)
    (F : ∀ base : Heap, K.In base → base.Ns mainGlobals mg → FnD P w K mg base k fa fd [x] g) (hbind : ∀ (s : Shared) (u : Value), BindsTo s fd ⟨[u], []⟩ [(x, u)]) (hgl : gLaw g) (hT : Tbs.T = []) :
    codeAny (model P w) callerA (.call (.ref fa) ⟨[.ref a], []⟩) (fun r s' => r = .ok (.ret (.bool true)) ∧ OldK s₁.heap s'.heap ∧ s'.os = s₁.os ∧ AllBare s'.gens) s₁ := by
  have hl2 : ns.length ≤ sizeLine := Nat.le_trans hl (by decide)
  have rv := vals_ints hi
  have lv := hi.length
  have main : ∀ H : Hp, Only H → Sc K H a (ns.map V.int) → HOk P w H s₁.heap → (∀ b, H b ≠ none → b = a) → (H a ≠ none → K.lookup a = none) →
      codeAny (model P w) callerA (.call (.ref fa) ⟨[.ref a], []⟩) (fun r s' => r = .ok (.ret (.bool true)) ∧ OldK s₁.heap s'.heap ∧ s'.os = s₁.os ∧ AllBare s'.gens) s₁ := by
    intro H hO hS hok hA hK
    have nd : ∀ {b : Addr} {o : Obj} {es : Array DictEntry} {ep : Nat}, s₁.heap.get? b = some o → o.data = .dict es ep → H b = none := by
      intro b o es ep e d
      by_cases q : H b = none
      · exact q
      · have e' := hA b q
        subst e'
        rw [ha] at e
        cases e
        exact (Data.noConfusion d)
    have toB : ∀ {b : Addr} {o : Obj}, s₁.heap.get? b = some o → H b = none → (hidT s₁.heap H).get? b = some o := fun e n => hidT_get e n
    have nsB : ∀ {b : Addr} {m : Str → Option Value}, s₁.heap.Ns b m → (hidT s₁.heap H).Ns b m := fun {b m} ⟨o, es, ep, e, d, r⟩ => ⟨o, es, ep, toB e (nd e d), d, r⟩
    have kB : K.In (hidT s₁.heap H) := by
      intro b o e
      refine toB (KX b o e) ?_
      by_cases q : H b = none
      · exact q
      · have e' := hA b q
        subst e'
        rw [hK q] at e; cases e
    have md : Mod K mg (hidT s₁.heap H) := ⟨kB, nsB hns, ⟨mb, nsB hb, hbb⟩, let ⟨mc, l1, l2⟩ := hlim; ⟨mc, nsB l1, l2⟩⟩
    have ev : Env0 P w K mg (hidT s₁.heap H) callerA [] s₁ H := ⟨rfl, md, fun b o e => of_hidT e, Nat.le_of_eq (hidT_size _ _), trivial, fun b hb => by simp [frs] at hb, hok, .of_eq hg⟩
    have sp : spD K g [.ref a] H (fun v _ => v = .bl true) (fun _ _ _ => False) := by
      refine ⟨fun _ => none, [.scr ns], fun _ => none, _, _, .cons (.scr hS) .nil, ⟨fun b mo e => by simp at e, fun b ws e => by simp at e, fun p hp => by rw [hT] at hp; cases hp⟩, hgl ns hl, ?_, ?_⟩
      · rintro d M' v H' rfl m r e
        cases r
        rfl
      · intro x M' cls d H' f
        exact f.elim
    refine codeAny_mono ((F _ kB (nsB hns)).run callerA [] s₁ H ⟨[.ref a], []⟩ [.ref a] [.ref a] _ _ hr rfl ev (hbind s₁ (.ref a)) (.cons rfl .nil) sp) fun r s' h => ?_
    cases r with
    | error e =>
      obtain ⟨_, _, _, _, _, _, _, _, _, _, _, _, f⟩ := h
      exact f.elim
    | ok fl =>
      cases fl with
      | next => exact h.elim
      | brk => exact h.elim
      | cont => exact h.elim
      | ret u =>
        obtain ⟨v, H', os, bare, un, hok', r', q⟩ := h
        have q' : v = .bl true := q
        subst q'
        obtain rfl : u = Value.bool true := r'
        refine ⟨rfl, OldK.of_keep fun b o e => ?_, os, bare⟩
        by_cases q : H b = none
        · exact un.keep b o e q (by simp [frs]) (by simp)
        · rcases hO b with z | ⟨ob, xs, z⟩
          · exact absurd z q
          · have z2 := un.frzs b ob _ z
            obtain ⟨e1, _⟩ := hok b _ z
            obtain ⟨e2, _⟩ := hok' b _ z2
            rw [e] at e1
            cases e1
            exact e2
  cases hk : K.lookup a with
  | some o =>
    have e := KX a o hk
    rw [ha] at e
    cases e
    exact main (fun _ => none) (fun _ => .inl rfl) (.inr ⟨_, vs.toArray, _, hk, rfl, rfl, rfl, by rw [List.size_toArray, lv]; exact hl2, by simpa using rv⟩) (fun b u z => by simp at z) (fun b z => absurd rfl z) fun z => absurd rfl z
  | none =>
    refine main (fun b => if b = a then some (.frz { cls := .type "list", data := .seq vs.toArray } (.lst (ns.map V.int))) else none) (fun b => ?_) (.inl ⟨{ cls := .type "list", data := .seq vs.toArray }, if_pos rfl⟩) (fun b u z => ?_) (fun b z => ?_) fun _ => hk
    · by_cases hb : b = a
      · exact .inr ⟨_, _, if_pos hb⟩
      · exact .inl (if_neg hb)
    · by_cases hb : b = a
      · subst hb
        have z' := (if_pos rfl).symm.trans z
        cases z'
        exact ⟨ha, by rw [List.length_map]; exact hl2, vs, _, rv, ha⟩
      · have z' := (if_neg hb).symm.trans z
        cases z'
    · by_cases hb : b = a
      · exact hb
      · exact absurd (if_neg hb) z
/-- the goal that the head leaves -/
theorem walkD {l : PySem.W.OpenLaw} {k : Nat} {q : Program} {loose : List Str} {XP : (Str → Option Value) → Heap → Prop} {YP : World → Heap → Prop} {d : DefRec} {K : Params → PySem.W.Frag} {g : G} {x : Str}
    (hn : l.most = some 63) (hdf : d.params.defaults = []) (hr : Room k callerA) (hY : ∀ (w : World) (h : Heap), YP w h → (K w.params).In h)
    (F : ∀ (w : World) (mg : Str → Option Value) (fa : Addr) (h : Heap), (K w.params).In h → h.Ns mainGlobals mg → mg d.name = some (.ref fa) →
      ∃ fd : FuncData, (∀ (s : Shared) (u : Value), BindsTo s fd ⟨[u], []⟩ [(x, u)]) ∧
        ∀ base : Heap, (K w.params).In base → base.Ns mainGlobals mg → FnD l.prog w (K w.params) mg base k fa fd [x] g) (hgl : gLaw g) (hT : Tbs.T = [] := by rfl) :
    PySem.W.WalkO q loose XP YP l.row.toRowW d [] (fun f vs => PySem.call f vs) := by
  refine Att.attach_call hn hdf fun w s₀ s₁ mg mb fa o pm cd doc a vs ns G Y ho hd hcd hmg hobj hints hlen hg => ?_
  obtain ⟨fd, hb, hF⟩ := F w mg fa _ (hY w _ Y) G.T.g hmg
  exact law_endD (hY w _ Y) G.T.g G.T.b G.T.builtins G.T.nolimit hg hobj hints hlen hr hF hb hgl hT
end L2.DL
/-! DLh: small things for the printed parts -/
namespace L2.DL
open PySem PySem.Spec PyProof.Rows
variable [Tbs]
theorem bt_len : bootBuiltins "len" = some (.builtin "len") := by decide +kernel
theorem bt_abs : bootBuiltins "abs" = some (.builtin "abs") := by decide +kernel
theorem bt_min : bootBuiltins "min" = some (.builtin "min") := by decide +kernel
theorem bt_max : bootBuiltins "max" = some (.builtin "max") := by decide +kernel
theorem bt_sum : bootBuiltins "sum" = some (.builtin "sum") := by decide +kernel
theorem bt_all : bootBuiltins "all" = some (.builtin "all") := by decide +kernel
theorem bt_any : bootBuiltins "any" = some (.builtin "any") := by decide +kernel
theorem bt_repr : bootBuiltins "repr" = some (.builtin "repr") := by decide +kernel
theorem bt_int : bootBuiltins "int" = some (.type "int") := by decide +kernel
theorem bt_tuple : bootBuiltins "tuple" = some (.type "tuple") := by decide +kernel
theorem bt_list : bootBuiltins "list" = some (.type "list") := by decide +kernel
mutual
theorem patW_ex : ∀ (p : Pat) (d : D) (ρ : Sl) (k : Sl → MS → Prop) (M : MS), patW p d ρ k M → ∃ ρ', k ρ' M
  | .nm i, d, ρ, k, M, h => ⟨_, h⟩
  | .tp ps, .tup ds, ρ, k, M, h => (patsW_ex ps ds ρ k M h).2
  | .tp ps, .lst ds, ρ, k, M, h => (patsW_ex ps ds ρ k M h).2
  | .tp ps, .non, ρ, k, M, h => (show False from h).elim
  | .tp ps, .bl _, ρ, k, M, h => (show False from h).elim
  | .tp ps, .int _, ρ, k, M, h => (show False from h).elim
  | .tp ps, .str _, ρ, k, M, h => (show False from h).elim
  | .tp ps, .ty _, ρ, k, M, h => (show False from h).elim
  | .tp ps, .ref _, ρ, k, M, h => (show False from h).elim
  | .tp ps, .scr _, ρ, k, M, h => (show False from h).elim
  | .tp ps, .fn _, ρ, k, M, h => (show False from h).elim
  | .tp ps, .clo _ _ _, ρ, k, M, h => (show False from h).elim
theorem patsW_ex : ∀ (ps : List Pat) (ds : List D) (ρ : Sl) (k : Sl → MS → Prop) (M : MS), patsW ps ds ρ k M → ds.length = ps.length ∧ ∃ ρ', k ρ' M
  | [], [], ρ, k, M, h => ⟨rfl, _, h⟩
  | [], _ :: _, ρ, k, M, h => (show False from h).elim
  | _ :: _, [], ρ, k, M, h => (show False from h).elim
  | p :: ps, d :: ds, ρ, k, M, h => by
    obtain ⟨ρ1, h1⟩ := patW_ex p d ρ _ M h
    obtain ⟨e, h2⟩ := patsW_ex ps ds ρ1 k M h1
    exact ⟨by rw [List.length_cons, List.length_cons, e], h2⟩
end
theorem pl_of (n : Nat) {ps : List Pat} (h : ps.length = n := by rfl) : ∀ ds ρ k M, patsW ps ds ρ k M → ds.length = n := fun ds ρ k M q => (patsW_ex ps ds ρ k M q).1.trans h
/-- what a def's proof shows -/
abbrev Hg (g : G) (tb : DTS) (N : List Str) : Prop := ∀ ds R RE M, g ds R RE M → tb (ends R RE) (startD N ds) M
end L2.DL
/-! DLi: what the readings come to, row by row (for simp) -/
namespace L2.DL
open PySem PySem.Spec PyProof.Rows
section
variable {De : DEnds} {ρ : Sl} {M : MS} {R : PD} {E : XP} {t u : DTS} {te ta tb tc to ti : DTE} {tA tB : DTT} {tl th : DTA} {lo hi : DTO} {i j : Nat} {d x y : D} {ds es : List D} {RB : Bool → MS → Prop} {w : DTI} {p : Pat}
theorem v_seq : dSeq t u De ρ M = t { De with nx := u De } ρ M := (rfl)
theorem v_next : dNext De ρ M = De.nx ρ M := (rfl)
theorem v_never : dNever De ρ M = False := (rfl)
theorem v_set : dSet i te De ρ M = te ρ (fun d M1 => De.nx (ρ.set i (some d)) M1) De.ex M := (rfl)
theorem v_ret : dRet te De ρ M = te ρ De.rt De.ex M := (rfl)
theorem v_retN : dRetN De ρ M = De.rt .non M := (rfl)
theorem v_ifS : dIfS tA t u De ρ M = tA ρ (fun k M1 => if k = true then t De ρ M1 else u De ρ M1) De.ex M := (rfl)
theorem v_expr : dExpr te De ρ M = te ρ (fun _ M1 => De.nx ρ M1) De.ex M := (rfl)
theorem v_asg : dAsg p te De ρ M = te ρ (fun d M1 => patW p d ρ De.nx M1) De.ex M := (rfl)
theorem v_par : dPar i j tl De ρ M = tl ρ (fun ds M1 => match ds with | [x, y] => De.nx ((ρ.set i (some x)).set j (some y)) M1 | _ => False) De.ex M := (rfl)
theorem v_sub : dSub te to ti De ρ M = te ρ (fun d M1 => to ρ (fun o M2 => ti ρ (fun i M3 => setLD o i d (fun M4 => De.nx ρ M4) M3) De.ex M2) De.ex M1) De.ex M := (rfl)
theorem v_for : dFor w p t De ρ M = w ρ (fun items M1 => forW p t De items ρ M1) De.ex M := (rfl)
theorem v_forN : forW p t De [] ρ M = De.nx ρ M := (rfl)
theorem v_forC : forW p t De (d :: ds) ρ M = patW p d ρ (fun ρ1 M1 => t { De with nx := forW p t De ds, ct := forW p t De ds, bk := De.nx } ρ1 M1) M := (rfl)
theorem v_break : dBreak De ρ M = De.bk ρ M := (rfl)
theorem v_cont : dCont De ρ M = De.ct ρ M := (rfl)
theorem v_nm {k : Sl → MS → Prop} : patW (.nm i) d ρ k M = k (ρ.set i (some d)) M := by cases d <;> rfl
theorem v_tp {ps : List Pat} {k : Sl → MS → Prop} : patW (.tp ps) (.tup ds) ρ k M = patsW ps ds ρ k M := (rfl)
theorem v_tpL {ps : List Pat} {k : Sl → MS → Prop} : patW (.tp ps) (.lst ds) ρ k M = patsW ps ds ρ k M := (rfl)
theorem v_tpN {k : Sl → MS → Prop} : patsW [] [] ρ k M = k ρ M := (rfl)
theorem v_tpC {ps : List Pat} {k : Sl → MS → Prop} : patsW (p :: ps) (d :: ds) ρ k M = patW p d ρ (fun ρ1 M1 => patsW ps ds ρ1 k M1) M := (rfl)
theorem v_var : dVar i ρ R E M = match sl ρ i with | some d => R d M | none => False := (rfl)
theorem v_sl0 {o : Option D} {r : Sl} : sl (o :: r) 0 = o := (rfl)
theorem v_slS {o : Option D} {r : Sl} {n : Nat} : sl (o :: r) (n + 1) = sl r n := (rfl)
theorem v_c : dC d ρ R E M = R d M := (rfl)
theorem v_nil {R : List D → MS → Prop} : dNil ρ R E M = R [] M := (rfl)
theorem v_cons {R : List D → MS → Prop} : dCons ta tl ρ R E M = ta ρ (fun x M1 => tl ρ (fun xs M2 => R (x :: xs) M2) E M1) E M := (rfl)
theorem v_tup : dTup tl ρ R E M = tl ρ (fun ds M1 => ds.length ≤ sizeLine ∧ R (.tup ds) M1) E M := (rfl)
theorem v_lst : dLst tl ρ R E M = tl ρ (fun ds M1 => ds.length ≤ sizeLine ∧ R (.lst ds) M1) E M := (rfl)
theorem v_lstN : dLstN tl ρ R E M = tl ρ (fun ds M1 => ds.length ≤ sizeLine ∧ ∀ p, M1 p = none → R (.ref p) (um M1 p (.lst ds))) E M := (rfl)
theorem v_op {f : D → D → PD → MS → Prop} : dOp f ta tb ρ R E M = ta ρ (fun x M1 => tb ρ (fun y M2 => f x y R M2) E M1) E M := (rfl)
theorem v_un {f : D → PD → MS → Prop} : dUn f ta ρ R E M = ta ρ (fun x M1 => f x R M1) E M := (rfl)
theorem v_ix : dIx ta tb ρ R E M = ta ρ (fun x M1 => tb ρ (fun y M2 => ixD x y R M2) E M1) E M := (rfl)
theorem v_tst : dTst te ρ RB E M = te ρ (fun d M1 => match d with | .bl k => RB k M1 | _ => False) E M := (rfl)
theorem v_tru : dTru te ρ RB E M = te ρ (fun d M1 => truD d RB M1) E M := (rfl)
theorem v_and : dAnd tA tB ρ RB E M = tA ρ (fun b M1 => if b = true then tB ρ RB E M1 else RB false M1) E M := (rfl)
theorem v_or : dOr tA tB ρ RB E M = tA ρ (fun b M1 => if b = true then RB true M1 else tB ρ RB E M1) E M := (rfl)
theorem v_not : dNot tA ρ RB E M = tA ρ (fun b M1 => RB (!b) M1) E M := (rfl)
theorem v_andV : dAndV ta tb ρ R E M = ta ρ (fun x M1 => truD x (fun k M2 => if k = true then tb ρ R E M2 else R x M2) M1) E M := (rfl)
theorem v_orV : dOrV ta tb ρ R E M = ta ρ (fun x M1 => truD x (fun k M2 => if k = true then R x M2 else tb ρ R E M2) M1) E M := (rfl)
theorem v_notV : dNotV ta ρ R E M = ta ρ (fun x M1 => truD x (fun k M2 => R (.bl (!k)) M2) M1) E M := (rfl)
theorem v_if : dIf tA ta tb ρ R E M = tA ρ (fun k M1 => if k = true then ta ρ R E M1 else tb ρ R E M1) E M := (rfl)
theorem v_chain {f g : D → D → PD → MS → Prop} : dChain f g ta tb tc ρ R E M = ta ρ (fun x M1 => tb ρ (fun y M2 => f x y (fun z M3 => match z with
  | .bl k => if k = true then tc ρ (fun w M4 => g y w R M4) E M3 else R (.bl false) M3
  | _ => False) M2) E M1) E M := (rfl)
theorem v_noP {R : Option Int → MS → Prop} : dNoPart ρ R E M = R none M := (rfl)
theorem v_part {R : Option Int → MS → Prop} : dPart te ρ R E M = te ρ (fun d M1 => match d with | .int i => R (some i) M1 | _ => False) E M := (rfl)
theorem v_sl : dSl ta lo hi ρ R E M = ta ρ (fun x M1 => lo ρ (fun lo M2 => hi ρ (fun hi M3 => slD x lo hi R M3) E M2) E M1) E M := (rfl)
theorem v_cb {f : List D → PD → MS → Prop} : dCB f tl ρ R E M = tl ρ (fun xs M1 => f xs R M1) E M := (rfl)
theorem v_mt {f : D → List D → PD → MS → Prop} : dMt f to tl ρ R E M = to ρ (fun x M1 => isL M1 x ∧ tl ρ (fun xs M2 => f x xs R M2) E M1) E M := (rfl)
theorem v_call {g : G} : dCall g tl ρ R E M = tl ρ (fun ds M1 => g ds R (fun x M' => E x ρ M') M1) E M := (rfl)
theorem v_items : dItems te ρ = fun (R : List D → MS → Prop) E M => te ρ (fun d M1 => match d with
  | .lst ds => R ds M1
  | .tup ds => R ds M1
  | _ => False) E M := (rfl)
theorem v_rng1 {R : List D → MS → Prop} : dRng1 tl ρ R E M = tl ρ (fun ds M1 => match ds with
  | [.int j] => -(2 ^ 62) ≤ j ∧ j < 2 ^ 62 ∧ R (rng 0 j.toNat) M1
  | _ => False) E M := (rfl)
theorem v_rng2 {R : List D → MS → Prop} : dRng2 tl ρ R E M = tl ρ (fun ds M1 => match ds with
  | [.int i, .int j] => (-(2 ^ 62) ≤ i ∧ i < 2 ^ 62 ∧ -(2 ^ 62) ≤ j ∧ j < 2 ^ 62) ∧ R (rng i (j - i).toNat) M1
  | _ => False) E M := (rfl)
theorem v_lc {tt : DTT} {vs : List Nat} : dLc w p tt te vs ρ R E M = w ρ (fun items M1 => lcW p tt te vs ρ (fun acc M2 => R (.lst acc) M2) items [] M1) E M := (rfl)
theorem v_lcN {tt : DTT} {vs : List Nat} {R : List D → MS → Prop} {acc : List D} : lcW p tt te vs ρ R [] acc M = R acc M := (rfl)
theorem v_lcC {tt : DTT} {vs : List Nat} {R : List D → MS → Prop} {acc : List D} : lcW p tt te vs ρ R (d :: ds) acc M = patW p d (wipeD ρ vs) (fun ρ1 M1 => tt ρ1 (fun b M2 => if b = true then te ρ1 (fun y M3 => acc.length < sizeLine ∧ lcW p tt te vs ρ R ds (acc ++ [y]) M3) noX M2 else lcW p tt te vs ρ R ds acc M2) noX M1) M := (rfl)
theorem v_forL : dForL i p t De ρ M = match sl ρ i with
  | some (.ref a) => ∃ ds, M a = some (.lst ds) ∧ forW p t (lockE a ds De) ds ρ (dm M a)
  | _ => False := (rfl)
theorem v_lcL {tt : DTT} {vs : List Nat} : dLcL i p tt te vs ρ R E M = match sl ρ i with
  | some (.ref a) => ∃ ds, M a = some (.lst ds) ∧ lcW p tt te vs ρ (fun acc M2 => R (.lst acc) (um M2 a (.lst ds))) ds [] (dm M a)
  | _ => False := (rfl)
theorem v_yes : dYes ρ RB E M = RB true M := (rfl)
theorem v_wN : wipeD ρ [] = ρ := (rfl)
theorem v_wC {vs : List Nat} {n : Nat} : wipeD ρ (n :: vs) = (wipeD ρ vs).set n none := (rfl)
theorem v_st0 {ds : List D} : startD [] ds = [] := (rfl)
theorem v_stC {s : Str} {N : List Str} {ds : List D} : startD (s :: N) (d :: ds) = some d :: startD N ds := (rfl)
theorem v_stN {s : Str} {N : List Str} : startD (s :: N) [] = none :: startD N [] := (rfl)
-- operators
theorem q_add {i j : Int} : addD (.int i) (.int j) R M = R (.int (i + j)) M := (rfl)
theorem q_addT : addD (.tup ds) (.tup es) R M = (ds.length + es.length ≤ sizeLine ∧ R (.tup (ds ++ es)) M) := (rfl)
theorem q_addS {i j : Str} : addD (.str i) (.str j) R M = (i.length + j.length ≤ sizeLine ∧ R (.str (i ++ j)) M) := (rfl)
theorem q_addL : addD (.lst ds) (.lst es) R M = (ds.length + es.length ≤ sizeLine ∧ R (.lst (ds ++ es)) M) := by
  apply propext
  constructor
  · rintro ⟨a, b, h1, h2, h3⟩
    cases (show a = ds from h1); cases (show b = es from h2)
    exact h3
  · exact fun h => ⟨_, _, rfl, rfl, h⟩
theorem q_sub {i j : Int} : subD (.int i) (.int j) R M = R (.int (i - j)) M := (rfl)
theorem q_mul {i j : Int} : mulD (.int i) (.int j) R M = (CMulX i j ∧ R (.int (i * j)) M) := (rfl)
theorem q_fdiv {i j : Int} : fdivD (.int i) (.int j) R M = (CDivX i j ∧ R (.int (i.fdiv j)) M) := (rfl)
theorem q_mod {i j : Int} : modD (.int i) (.int j) R M = (j ≠ 0 ∧ R (.int (i.fmod j)) M) := (rfl)
theorem q_pow {i j : Int} : powD (.int i) (.int j) R M = (CPow i j ∧ R (.int (i ^ j.toNat)) M) := (rfl)
theorem q_neg {i : Int} : negD (.int i) R M = R (.int (-i)) M := (rfl)
theorem q_ii {f : Int → Int → Bool} {i j : Int} : iiD f (.int i) (.int j) R M = R (.bl (f i j)) M := (rfl)
theorem q_eqI {f : Bool → Bool} {i j : Int} : eqD f (.int i) (.int j) R M = R (.bl (f (decide (i = j)))) M := (rfl)
theorem q_eqS {f : Bool → Bool} {i j : Str} : eqD f (.str i) (.str j) R M = R (.bl (f (decide (i = j)))) M := (rfl)
theorem q_eqB {f : Bool → Bool} {i j : Bool} : eqD f (.bl i) (.bl j) R M = R (.bl (f (decide (i = j)))) M := (rfl)
theorem q_is {f : Bool → Bool} : isD f x .non R M = R (.bl (f (isNon x))) M := by cases x <;> rfl
theorem q_it0 : itD (x :: ds) 0 R M = R x M := by unfold itD; rw [show atI (x :: ds) 0 = some x from atI_nat (j := 0) rfl]
theorem q_it1 {a : D} : itD (a :: x :: ds) 1 R M = R x M := by unfold itD; rw [show atI (a :: x :: ds) 1 = some x from atI_nat (j := 1) rfl]
theorem q_it2 {a b : D} : itD (a :: b :: x :: ds) 2 R M = R x M := by unfold itD; rw [show atI (a :: b :: x :: ds) 2 = some x from atI_nat (j := 2) rfl]
theorem q_it3 {a b c : D} : itD (a :: b :: c :: x :: ds) 3 R M = R x M := by unfold itD; rw [show atI (a :: b :: c :: x :: ds) 3 = some x from atI_nat (j := 3) rfl]
theorem q_it {n : Nat} (h : ds[n]? = some x) : itD ds (n : Int) R M = R x M := by unfold itD; rw [atI_nat h]
theorem q_ixT {i : Int} : ixD (.tup ds) (.int i) R M = itD ds i R M := (rfl)
theorem q_ixL {i : Int} : ixD (.lst ds) (.int i) R M = itD ds i R M := (rfl)
theorem q_ixR {a : Addr} {i : Int} : ixD (.ref a) (.int i) R M = ∃ ds, M a = some (.lst ds) ∧ itD ds i R M := (rfl)
theorem q_setL {a : Addr} {k : Int} {R : MS → Prop} : setLD (.ref a) (.int k) d R M = ∃ ds j, M a = some (.lst ds) ∧ ixN ds.length k = some j ∧ R (um M a (.lst (ds.set j d))) := (rfl)
theorem q_lenT : lenD [.tup ds] R M = R (.int ds.length) M := (rfl)
theorem q_lenL : lenD [.lst ds] R M = R (.int ds.length) M := (rfl)
theorem q_lenR {a : Addr} : lenD [.ref a] R M = ∃ ds, M a = some (.lst ds) ∧ R (.int ds.length) M := (rfl)
theorem q_slT {lo hi : Option Int} : slD (.tup ds) lo hi R M = R (.tup (cut ds lo hi)) M := (rfl)
theorem q_slL {lo hi : Option Int} : slD (.lst ds) lo hi R M = R (.lst (cut ds lo hi)) M := (rfl)
theorem q_slC {ns : List Int} {lo hi : Option Int} : slD (.scr ns) lo hi R M = R (.lst ((cut ns lo hi).map D.int)) M := (rfl)
theorem q_app {a : Addr} : appD (.ref a) [d] R M = ∃ ds, M a = some (.lst ds) ∧ ds.length < sizeLine ∧ R .non (um M a (.lst (ds ++ [d]))) := (rfl)
theorem q_ext {a : Addr} : extD (.ref a) [d] R M = ∃ ds es, M a = some (.lst ds) ∧ Sq M d es ∧ ds.length + es.length ≤ sizeLine ∧ R .non (um M a (.lst (ds ++ es))) := (rfl)
theorem q_isL {a : Addr} : isL M (.ref a) = ∃ ds, M a = some (.lst ds) := (rfl)
theorem q_tupL : tupD [.lst ds] R M = R (.tup ds) M := by
  apply propext
  constructor
  · rintro ⟨a, h1, h2⟩
    cases (show a = ds from h1)
    exact h2
  · exact fun h => ⟨_, rfl, h⟩
theorem q_tupT : tupD [.tup ds] R M = R (.tup ds) M := by
  apply propext
  constructor
  · rintro ⟨a, h1, h2⟩
    cases (show a = ds from h1)
    exact h2
  · exact fun h => ⟨_, rfl, h⟩
theorem q_tupR {a : Addr} : tupD [.ref a] R M = ∃ ds, M a = some (.lst ds) ∧ R (.tup ds) M := (rfl)
theorem q_tb {b : Bool} : truD (.bl b) RB M = RB b M := (rfl)
theorem q_tn : truD .non RB M = RB false M := (rfl)
theorem q_ti {i : Int} : truD (.int i) RB M = RB (i != 0) M := (rfl)
theorem q_tt : truD (.tup ds) RB M = RB (!ds.isEmpty) M := (rfl)
theorem q_tl : truD (.lst ds) RB M = RB (!ds.isEmpty) M := (rfl)
theorem q_abs {i : Int} : absD [.int i] R M = R (.int (if i < 0 then -i else i)) M := (rfl)
theorem q_min {i j : Int} : minD [.int i, .int j] R M = R (.int (if j < i then j else i)) M := (rfl)
theorem q_max {i j : Int} : maxD [.int i, .int j] R M = R (.int (if j > i then j else i)) M := (rfl)
theorem q_intI {i : Int} : intD [.int i] R M = R (.int i) M := (rfl)
theorem q_intB {b : Bool} : intD [.bl b] R M = R (.int (if b then 1 else 0)) M := (rfl)
theorem q_dnx {a b c e f} : ({ nx := a, rt := b, bk := c, ct := e, ex := f } : DEnds).nx = a := (rfl)
theorem q_drt {a b c e f} : ({ nx := a, rt := b, bk := c, ct := e, ex := f } : DEnds).rt = b := (rfl)
theorem q_dbk {a b c e f} : ({ nx := a, rt := b, bk := c, ct := e, ex := f } : DEnds).bk = c := (rfl)
theorem q_dct {a b c e f} : ({ nx := a, rt := b, bk := c, ct := e, ex := f } : DEnds).ct = e := (rfl)
theorem q_dex {a b c e f} : ({ nx := a, rt := b, bk := c, ct := e, ex := f } : DEnds).ex = f := (rfl)
end
end L2.DL
namespace L2.DL
open PySem PySem.Spec PyProof.Rows
section
variable {M : MS} {R : PD} {d x y : D} {ds es : List D} {f : Bool → Bool}
theorem q_ixN0 {n : Nat} : ixN (n + 1) 0 = some 0 := by unfold ixN; rw [if_pos (by decide), if_pos (by omega)]; rfl
theorem q_ixN1 {n : Nat} : ixN (n + 1 + 1) 1 = some 1 := by unfold ixN; rw [if_pos (by decide), if_pos (by omega)]; rfl
theorem q_ixN2 {n : Nat} : ixN (n + 1 + 1 + 1) 2 = some 2 := by unfold ixN; rw [if_pos (by decide), if_pos (by omega)]; rfl
theorem q_ixN3 {n : Nat} : ixN (n + 1 + 1 + 1 + 1) 3 = some 3 := by unfold ixN; rw [if_pos (by decide), if_pos (by omega)]; rfl
theorem log2_lt {n k : Nat} (h : n < 2 ^ k) (hk : 0 < k) : n.log2 < k := PySem.Flt.log2_lt_of hk h
theorem mul_ok {i j : Int} {a b : Nat} (h1 : i.natAbs < 2 ^ a) (h2 : j.natAbs < 2 ^ b) (h0 : 0 < a) (h3 : 0 < b) (h : a + b ≤ 1000000) : CMulX i j := by
  have x := log2_lt h1 h0
  have y := log2_lt h2 h3
  unfold CMulX
  omega
theorem div_ok {i j : Int} {b : Nat} (h : j ≠ 0) (h2 : j.natAbs < 2 ^ b) (h0 : 0 < b) (h9 : b ≤ 9000) : CDivX i j := ⟨h, Nat.lt_of_lt_of_le (log2_lt h2 h0) h9⟩
/-- data that may be compared, written out -/
def okP (d : D) : Prop := isP d = true ∧ SeqAt.shaped (pd d) = true
theorem eqD_gen (hx : okP x) (hy : okP y) (h : R (.bl (f (PyData.eqv (pd x) (pd y)))) M) : eqD f x y R M := by
  have g : eqG f x y R M := by
    have sx : Sees M x x := by
      cases x with
      | ref a => cases hx.1
      | _ => rfl
    have sy : Sees M y y := by
      cases y with
      | ref a => cases hy.1
      | _ => rfl
    exact ⟨x, y, sx, sy, hx.1, hy.1, hx.2, hy.2, h⟩
  unfold eqD
  split
  · skip
    simpa [pd, PyData.eqv, Bool.beq_eq_decide_eq] using h
  · simpa [pd, PyData.eqv, Bool.beq_eq_decide_eq] using h
  · simpa [pd, PyData.eqv, Bool.beq_eq_decide_eq] using h
  · exact g
theorem pds_ints : ∀ ns : List Int, pds (ns.map D.int) = ns.map PyData.int
  | [] => rfl
  | n :: ns => by show PyData.int n :: pds (ns.map D.int) = _; rw [pds_ints ns]; rfl
theorem isPs_ints : ∀ ns : List Int, isPs (ns.map D.int) = true
  | [] => rfl
  | n :: ns => by show (true && isPs (ns.map D.int)) = true; rw [isPs_ints ns]; rfl
theorem lay_ints : ∀ ns : List Int, PyData.canLayAll0 (ns.map PyData.int) = true ∧ PyData.depthAll (ns.map PyData.int) = 0
  | [] => ⟨by simp [PyData.canLayAll0], by simp [PyData.depthAll]⟩
  | n :: ns => by
    obtain ⟨a, b⟩ := lay_ints ns
    exact ⟨by simp [PyData.canLayAll0, PyData.canLay0, a], by simp [PyData.depthAll, PyData.depth, b]⟩
theorem okP_ints (ns : List Int) : okP (.lst (ns.map D.int)) := by
  obtain ⟨a, b⟩ := lay_ints ns
  refine ⟨isPs_ints ns, ?_⟩
  show SeqAt.shaped (.list (pds (ns.map D.int))) = true
  rw [pds_ints]
  simp [SeqAt.shaped, PyData.canLay0, PyData.depth, a, b]
theorem okP_nil : okP (.lst []) := okP_ints []
theorem q_intsNil {ns : List Int} (h : R (.bl (f ns.isEmpty)) M) : eqD f (.lst (ns.map D.int)) (.lst []) R M := by
  refine eqD_gen (okP_ints ns) okP_nil ?_
  have e : PyData.eqv (pd (.lst (ns.map D.int))) (pd (.lst [])) = ns.isEmpty := by
    show PyData.eqv (.list (pds (ns.map D.int))) (.list (pds [])) = _
    rw [pds_ints]
    cases ns <;> simp [PyData.eqv, PyData.eqvAll, pds]
  rw [e]
  exact h
theorem fmod_nn {i n : Int} (h : 0 < n) : 0 ≤ i.fmod n ∧ i.fmod n < n := ⟨Int.fmod_nonneg_of_pos i h, Int.fmod_lt_of_pos i h⟩
theorem it_in {i : Int} (h0 : 0 ≤ i) (h1 : i < ds.length) (k : ∀ d, d ∈ ds → R d M) : itD ds i R M := by
  obtain ⟨n, rfl⟩ : ∃ n : Nat, i = n := ⟨i.toNat, by omega⟩
  have hn : n < ds.length := by omega
  have e : ds[n]? = some ds[n] := List.getElem?_eq_getElem hn
  rw [q_it e]
  exact k _ (List.getElem_mem hn)
end
end L2.DL
/-! DLj: loops by an invariant over what is left -/
namespace L2.DL
open PySem PySem.Spec PyProof.Rows
theorem for_ind {p : Pat} {t : DTS} {De : DEnds} (I : List D → Sl → MS → Prop)
    (step : ∀ d ds ρ M (Kx : Sl → MS → Prop), I (d :: ds) ρ M → (∀ ρ' M', I ds ρ' M' → Kx ρ' M') → patW p d ρ (fun ρ1 M1 => t { De with nx := Kx, ct := Kx, bk := De.nx } ρ1 M1) M)
    (fin : ∀ ρ M, I [] ρ M → De.nx ρ M) : ∀ {items : List D} {ρ : Sl} {M : MS}, I items ρ M → forW p t De items ρ M
  | [], ρ, M, h => by rw [v_forN]; exact fin ρ M h
  | d :: ds, ρ, M, h => by
    rw [v_forC]
    exact step d ds ρ M _ h fun ρ' M' h' => for_ind I step fin h'
theorem lc_ind {p : Pat} {tt : DTT} {te : DTE} {vs : List Nat} {ρ : Sl} {R : List D → MS → Prop} (I : List D → List D → MS → Prop)
    (step : ∀ d ds acc M (Kx : List D → MS → Prop), I (d :: ds) acc M → (∀ acc' M', I ds acc' M' → Kx acc' M') → patW p d (wipeD ρ vs) (fun ρ1 M1 => tt ρ1 (fun b M2 => if b = true then te ρ1 (fun y M3 => acc.length < sizeLine ∧ Kx (acc ++ [y]) M3) noX M2 else Kx acc M2) noX M1) M)
    (fin : ∀ acc M, I [] acc M → R acc M) : ∀ {items acc : List D} {M : MS}, I items acc M → lcW p tt te vs ρ R items acc M
  | [], acc, M, h => by rw [v_lcN]; exact fin acc M h
  | d :: ds, acc, M, h => by
    rw [v_lcC]
    exact step d ds acc M _ h fun a' M' h' => lc_ind I step fin h'
/-- a comprehension that leaves the store as it is and maps each item -/
theorem lc_map {p : Pat} {te : DTE} {vs : List Nat} {ρ : Sl} {R : List D → MS → Prop} {M : MS} (f : D → D) {items : List D}
    (step : ∀ d, d ∈ items → ∀ (R : PD), R (f d) M → patW p d (wipeD ρ vs) (fun ρ1 M1 => te ρ1 R noX M1) M)
    (hn : items.length ≤ sizeLine) (fin : R (items.map f) M) : lcW p dYes te vs ρ R items [] M := by
  refine lc_ind (fun its acc M' => M' = M ∧ ∃ pre, items = pre ++ its ∧ acc = pre.map f) ?_ ?_ ⟨rfl, [], rfl, rfl⟩
  · rintro d ds acc M' Kx ⟨rfl, pre, e1, e2⟩ hk
    have hl : acc.length < sizeLine := by
      rw [e2, List.length_map]
      have := congrArg List.length e1
      rw [List.length_append, List.length_cons] at this
      omega
    refine step d (by rw [e1]; exact List.mem_append_right _ List.mem_cons_self) (fun y M3 => acc.length < sizeLine ∧ Kx (acc ++ [y]) M3) ⟨hl, hk _ _ ⟨rfl, pre ++ [d], by rw [e1, List.append_assoc]; rfl, by rw [e2, List.map_append]; rfl⟩⟩
  · rintro acc M' ⟨rfl, pre, e1, e2⟩
    rw [List.append_nil] at e1
    rw [e2, ← e1]
    exact fin
theorem mem_rng {d : D} {lo : Int} {n : Nat} (h : d ∈ rng lo n) : ∃ k : Nat, k < n ∧ d = .int (lo + k) := by
  obtain ⟨k, hk, e⟩ := List.mem_map.mp h
  exact ⟨k, List.mem_range.mp hk, e.symm⟩
theorem rng_len {lo : Int} {n : Nat} : (rng lo n).length = n := by
  unfold rng
  rw [List.length_map, List.length_range]
theorem um_comm {M : MS} {a b : Addr} {o u : MO} (h : a ≠ b) : um (um M a o) b u = um (um M b u) a o := by
  funext c
  unfold um
  split
  · split
    · rename_i x y
      exact absurd (y.symm.trans x) h
    · rfl
  · rfl
/-- a store with one list of its own at p (a: the feed), otherwise as M -/
structure Two (Fd : MO → Prop) (M : MS) (a p : Addr) (L : List D) (M' : MS) : Prop where
  fd : ∃ o, M' a = some o ∧ Fd o
  ls : M' p = some (.lst L)
  ne : p ≠ a
  ot : ∀ q, q ≠ a → q ≠ p → M' q = M q
theorem Two.um {F F' : MO → Prop} {M M' : MS} {a p : Addr} {L : List D} {o : MO} (h : Two F M a p L M') (f : F' o) : Two F' M a p L (um M' a o) :=
  ⟨⟨o, um_same, f⟩, (um_ne h.ne).trans h.ls, h.ne, fun q h1 h2 => (um_ne h1).trans (h.ot q h1 h2)⟩
theorem Two.put {F : MO → Prop} {M M' : MS} {a p : Addr} {L L' : List D} (h : Two F M a p L M') : Two F M a p L' (DL.um M' p (.lst L')) := by
  obtain ⟨o, e, f⟩ := h.fd
  exact ⟨⟨o, (um_ne h.ne.symm).trans e, f⟩, um_same, h.ne, fun q h1 h2 => (um_ne h2).trans (h.ot q h1 h2)⟩
theorem Two.new {F : MO → Prop} {M : MS} {a p : Addr} {L : List D} {o : MO} (f : F o) (n : DL.um M a o p = none) : Two F M a p L (DL.um (DL.um M a o) p (.lst L)) := by
  have ne : p ≠ a := by
    intro e
    rw [e, um_same] at n
    cases n
  exact ⟨⟨o, (um_ne ne.symm).trans um_same, f⟩, um_same, ne, fun q h1 h2 => (um_ne h2).trans (um_ne h1)⟩
theorem Two.mono {F F' : MO → Prop} {M M' : MS} {a p : Addr} {L : List D} (h : Two F M a p L M') (k : ∀ o, F o → F' o) : Two F' M a p L M' := by
  obtain ⟨o, e, f⟩ := h.fd
  exact ⟨⟨o, e, k o f⟩, h.ls, h.ne, h.ot⟩
theorem Two.out {F : MO → Prop} {M M' : MS} {a p : Addr} {L : List D} (h : Two F M a p L M') (n : M p = none) : ∃ o, F o ∧ Le (DL.um M a o) M' := by
  obtain ⟨o, e, f⟩ := h.fd
  refine ⟨o, f, fun q u hq => ?_⟩
  by_cases e1 : q = a
  · subst e1
    rw [um_same] at hq
    rw [e, hq]
  · rw [um_ne e1] at hq
    have e2 : q ≠ p := fun e2 => by rw [e2, n] at hq; cases hq
    rw [h.ot q e1 e2, hq]
end L2.DL
/-! DLk: data small enough to be shown and compared -/
namespace L2.DL
open PySem PySem.Spec PyProof.Rows
variable [Tbs]
/-- plain data: numbers below 10^k, at most m deep, weight at most n -/
structure Nice (k m n : Nat) (d : D) : Prop where
  isp : isP d = true
  lay : (pd d).canLay0 = true
  lev : (pd d).leavesShort (k + 1) = true
  shw : (pd d).showable = true
  dep : (pd d).depth ≤ m
  wgt : (pd d).weight ≤ n
theorem Nice.up {k m n m' n' : Nat} {d : D} (h : Nice k m n d) (h1 : m ≤ m') (h2 : n ≤ n') : Nice k m' n' d := ⟨h.isp, h.lay, h.lev, h.shw, Nat.le_trans h.dep h1, Nat.le_trans h.wgt h2⟩
theorem pow10_2 : ∀ k : Nat, 10 ^ k ≤ 2 ^ (4 * k)
  | 0 => Nat.le_refl _
  | k + 1 => by
    have h := pow10_2 k
    rw [Nat.pow_succ, Nat.mul_add, Nat.pow_add]
    exact Nat.mul_le_mul h (by decide)
theorem nice_int {k : Nat} {i : Int} (hk : 0 < k) (hk2 : k ≤ 400) (h : i.natAbs < 10 ^ k) : Nice k 0 (4 * k) (.int i) := by
  have hp := pow10_2 k
  have hl : i.natAbs.log2 < 4 * k := log2_lt (Nat.lt_of_lt_of_le h hp) (by omega)
  refine ⟨rfl, by simp [pd, PyData.canLay0], ?_, ?_, by simp [pd, PyData.depth], ?_⟩
  · have e := int_text_length_le10 hk h
    have e2 : (PyData.shown (.int i)).length ≤ k + 1 := by
      show (Str.ofString (toString i)).length ≤ k + 1
      rw [PySem.ofString_length]
      exact e
    simp only [pd, PyData.leavesShort, decide_eq_true_eq]
    exact e2
  · have : i.natAbs.log2 < 1920 := by omega
    simpa [pd, PyData.showable] using this
  · simp only [pd, PyData.weight]
    split <;> omega
theorem nice_non {k : Nat} : Nice k 0 0 .non := ⟨rfl, by simp [pd, PyData.canLay0], by simp [pd, PyData.leavesShort], by simp [pd, PyData.showable], by simp [pd, PyData.depth], by simp [pd, PyData.weight]⟩
theorem nice_bl {k : Nat} {b : Bool} : Nice k 0 0 (.bl b) := ⟨rfl, by simp [pd, PyData.canLay0], by simp [pd, PyData.leavesShort], by simp [pd, PyData.showable], by simp [pd, PyData.depth], by simp [pd, PyData.weight]⟩
theorem nices {k m n : Nat} : ∀ {ds : List D}, (∀ d, d ∈ ds → Nice k m n d) → isPs ds = true ∧ PyData.canLayAll0 (pds ds) = true ∧ PyData.leavesShortAll (k + 1) (pds ds) = true ∧ PyData.showableAll (pds ds) = true ∧ PyData.depthAll (pds ds) ≤ m ∧ PyData.weightAll (pds ds) ≤ (n + 1) * ds.length
  | [], _ => ⟨rfl, by simp [pds, PyData.canLayAll0], by simp [pds, PyData.leavesShortAll], by simp [pds, PyData.showableAll], by simp [pds, PyData.depthAll], by simp [pds, PyData.weightAll]⟩
  | d :: ds, h => by
    have a := h d List.mem_cons_self
    obtain ⟨b1, b2, b3, b4, b5, b6⟩ := nices fun e he => h e (List.mem_cons_of_mem _ he)
    refine ⟨by show (isP d && isPs ds) = true; rw [a.isp, b1]; rfl, ?_, ?_, ?_, ?_, ?_⟩
    · simp only [pds, PyData.canLayAll0, a.lay, b2, Bool.and_self]
    · simp only [pds, PyData.leavesShortAll, a.lev, b3, Bool.and_self]
    · simp only [pds, PyData.showableAll, a.shw, b4, Bool.and_self]
    · simp only [pds, PyData.depthAll]
      exact Nat.max_le.mpr ⟨a.dep, b5⟩
    · have w := a.wgt
      have e : (n + 1) * (d :: ds).length = (n + 1) * ds.length + (n + 1) := by rw [List.length_cons, Nat.mul_add, Nat.mul_one]
      simp only [pds, PyData.weightAll]
      omega
theorem nice_tup {k m n q : Nat} {ds : List D} (h : ∀ d, d ∈ ds → Nice k m n d) (hn : (n + 1) * ds.length ≤ q) : Nice k (m + 1) q (.tup ds) := by
  obtain ⟨b1, b2, b3, b4, b5, b6⟩ := nices h
  refine ⟨b1, ?_, ?_, ?_, ?_, ?_⟩ <;> simp only [pd, PyData.canLay0, PyData.leavesShort, PyData.showable, PyData.depth, PyData.weight]
  · exact b2
  · exact b3
  · exact b4
  · omega
  · omega
theorem nice_lst {k m n q : Nat} {ds : List D} (h : ∀ d, d ∈ ds → Nice k m n d) (hn : (n + 1) * ds.length ≤ q) : Nice k (m + 1) q (.lst ds) := by
  obtain ⟨b1, b2, b3, b4, b5, b6⟩ := nices h
  refine ⟨b1, ?_, ?_, ?_, ?_, ?_⟩ <;> simp only [pd, PyData.canLay0, PyData.leavesShort, PyData.showable, PyData.depth, PyData.weight]
  · exact b2
  · exact b3
  · exact b4
  · omega
  · omega
theorem nice_str {k n : Nat} {x : Str} (h : PySem.PyData.strOk x = true) (hn : x.length ≤ n) : Nice k 0 n (.str x) := by
  refine ⟨rfl, by simpa [pd, PyData.canLay0] using h, ?_, by simp [pd, PyData.showable], by simp [pd, PyData.depth], by simp only [pd, PyData.weight]; exact hn⟩
  exact PyData.leavesShort_of_canLay0 (k + 1) (.str x) (by simpa [PyData.canLay0] using h) (by simp [PyData.intsShort])
theorem Nice.shown {k m n : Nat} {d : D} (h : Nice k m n d) (hk : 7 ≤ k) : (pd d).shown.length ≤ (k + 3) * n + k + 1 := by
  have e := PyData.shown_le (k + 1) (by omega) (pd d) h.lev
  have := Nat.mul_le_mul_left (k + 3) h.wgt
  rw [show k + 1 + 2 = k + 3 from rfl] at e
  omega
theorem Nice.okR {k m n : Nat} {d : D} (h : Nice k m n d) (hk : 7 ≤ k) (hm : m ≤ 60) (hn : (k + 3) * n + k + 1 ≤ 16777216) : reprOk (pd d) :=
  ⟨h.shw, h.lay, by have := h.shown hk; rw [sizeLine_eq]; omega, Nat.le_trans h.dep hm⟩
theorem Nice.okP {k m n : Nat} {d : D} (h : Nice k m n d) (hm : m ≤ 60) : okP d := by
  refine ⟨h.isp, ?_⟩
  have := h.dep
  unfold SeqAt.shaped
  rw [h.lay, Bool.true_and, decide_eq_true_eq]
  omega
theorem sees_self {M : MS} {d : D} (h : isP d = true) : Sees M d d := by
  cases d with
  | ref a => cases h
  | _ => rfl
theorem repr_of {k m n : Nat} {d : D} {R : PD} {M : MS} (h : Nice k m n d) (hk : 7 ≤ k) (hm : m ≤ 60) (hn : (k + 3) * n + k + 1 ≤ 16777216) (q : R (.str (pd d).shown) M) : reprD [d] R M := ⟨d, sees_self h.isp, h.isp, h.okR hk hm hn, q⟩
theorem eq_of {k m n k' m' n' : Nat} {f : Bool → Bool} {x y : D} {R : PD} {M : MS} (hx : Nice k m n x) (hy : Nice k' m' n' y) (hm : m ≤ 60) (hm' : m' ≤ 60) (h : R (.bl (f (PyData.eqv (pd x) (pd y)))) M) : eqD f x y R M := eqD_gen (hx.okP hm) (hy.okP hm') h
end L2.DL
/-! DLl: one variable or the other; further rules -/
namespace L2.DL
open PySem PySem.Spec PyProof.Rows
variable [Tbs]
def selD (k : Bool) : Option D → Option D → PD → MS → Prop
  | some (.int x), some (.int y), R, M => R (.int (if k = true then x else y)) M
  | a, b, R, M => match (if k = true then a else b) with
    | some d => R d M
    | none => False
def dIfV (tA : DTT) (i j : Nat) : DTE := fun ρ R E M => tA ρ (fun k M1 => selD k (sl ρ i) (sl ρ j) R M1) E M
theorem selD_eq {k : Bool} {a b : Option D} {R : PD} {M : MS} : selD k a b R M = (if k = true then (match a with | some d => R d M | none => False) else (match b with | some d => R d M | none => False)) := by
  unfold selD
  split
  · cases k <;> rfl
  · cases k <;> rfl
theorem dIfV_eq {tA : DTT} {i j : Nat} : dIfV tA i j = dIf tA (dVar i) (dVar j) := by
  funext ρ R E M
  unfold dIfV dIf
  congr 1
  funext k M1
  rw [selD_eq]
  rfl
theorem de_ifV {X : Cx} {W : WX} {e : Expr} {tA : DTT} {i j : Nat} (h : DE X W e (dIf tA (dVar i) (dVar j))) : DE X W e (dIfV tA i j) := by rw [dIfV_eq]; exact h
section
variable {ρ : Sl} {M : MS} {R : PD} {E : XP} {tA : DTT} {i j : Nat} {x y : Int} {k : Bool}
theorem v_ifV : dIfV tA i j ρ R E M = tA ρ (fun k M1 => selD k (sl ρ i) (sl ρ j) R M1) E M := (rfl)
theorem q_selI : selD k (some (.int x)) (some (.int y)) R M = R (.int (if k = true then x else y)) M := (rfl)
end
end L2.DL
/-! DLm: a module's constants; zip in a loop -/
namespace L2.DL
open PySem PySem.Spec PyProof.Rows
variable [Tbs]
/-- a value of the module's that tells this -/
def Kd (K : PySem.W.Frag) (u : Value) (d : D) : Prop := ∃ v, RelV v u ∧ ∀ z H M, Rel ⟨K, z⟩ H M v d
def Kds (K : PySem.W.Frag) : List Value → List D → Prop
  | [], [] => True
  | u :: us, d :: ds => Kd K u d ∧ Kds K us ds
  | _, _ => False
section
variable {K : PySem.W.Frag}
theorem kd_int {i : Int} {t : Tok} : Kd K (.int i t) (.int i) := ⟨.int i, ⟨_, rfl⟩, fun _ _ _ => .int _⟩
theorem kd_str {x : Str} {t : Tok} : Kd K (.str x t) (.str x) := ⟨.str x, ⟨_, rfl⟩, fun _ _ _ => .str _⟩
theorem kd_ref {a : Addr} : Kd K (.ref a) (.ref a) := ⟨.ref a, rfl, fun _ _ _ => .ref _⟩
theorem kds_vals : ∀ {us : List Value} {ds : List D}, Kds K us ds → ∃ vs, Vals vs us ∧ ∀ z H M, RelA ⟨K, z⟩ H M vs ds
  | [], [], _ => ⟨[], .nil, fun _ _ _ => .nil⟩
  | [], _ :: _, h => h.elim
  | _ :: _, [], h => h.elim
  | u :: us, d :: ds, h => by
    obtain ⟨⟨v, r, q⟩, hs⟩ := h
    obtain ⟨vs, r2, q2⟩ := kds_vals hs
    exact ⟨v :: vs, .cons r r2, fun z H M => .cons (q z H M) (q2 z H M)⟩
theorem kd_tup {p : Addr} {od : Option Addr} {its : Array Value} {n : Nat} {sl : Array (Option Value)} {ds : List D} (e : K.lookup p = some ⟨.type "tuple", od, .seq its n, sl⟩) (hs : Kds K its.toList ds) (hz : its.size ≤ sizeLine) : Kd K (.ref p) (.tup ds) := by
  obtain ⟨vs, r, q⟩ := kds_vals hs
  exact ⟨.ref p, rfl, fun z H M => .tup (.inr ⟨_, its, n, e, rfl, rfl, hz, r⟩) (q z H M)⟩
end
def Gd (K : PySem.W.Frag) (mg : Str → Option Value) (x : Str) (d : D) : Prop := ∃ u, mg x = some u ∧ Kd K u d
section
variable {X : Cx} {W : WX} {a b : Expr} {pos : Pos}
theorem de_gd {x : Str} {d : D} (g : Gd X.K X.mg x d) (hg : Gl X x := by rfl) (hd : (x == ("__debug__" : Str)) = false := by decide) : DE X W (.Name x pos) (dC d) := by
  obtain ⟨u, hm, v, r, q⟩ := g
  exact de_c (pe_glob (v := v) hg hm r hd) q
/-! ### zip -/
def zipD (xs ys : List D) : List D := List.zipWith (fun x y => D.tup [x, y]) xs ys
theorem zipD_at {xs ys : List D} {i : Nat} {x y : D} (h1 : xs[i]? = some x) (h2 : ys[i]? = some y) : (zipD xs ys)[i]? = some (.tup [x, y]) := by
  unfold zipD
  rw [List.getElem?_zipWith, h1, h2]
theorem zipD_len {xs ys : List D} : (zipD xs ys).length = min xs.length ys.length := List.length_zipWith
section
variable {K : ZK} {H : Hp} {M : MS}
theorem rel_pair {K : ZK} {H : Hp} {M : MS} {T : Addr} {vx vy : V} {x y : D} (h : H T = none) (m : RelM K H M) (rx : Rel K H M vx x) (ry : Rel K H M vy y) :
    Rel K (upd H T (.tup [vx, vy])) M (.ref T) (.tup [x, y]) := by
  have e := ext_new (o := .tup [vx, vy]) m h
  exact .tup (.inl (.inl upd_same)) (.cons (e _ _ rx) (.cons (e _ _ ry) .nil))
theorem itOk_zipT {a b : Addr} {xs ys : List D} (r1 : Rel K H M (.ref a) (.tup xs)) (r2 : Rel K H M (.ref b) (.tup ys)) : ItOk K (RZ.ItzT K.K a b) (zipD xs ys) H M where
  go := fun K' i H' M' hk hi m e => by
    rw [zipD_len] at hi
    cases e _ _ r1 with
    | tup s ra =>
      cases e _ _ r2 with
      | tup s2 ra2 =>
        obtain ⟨v, q, _⟩ := ra.get (List.getElem?_eq_getElem (Nat.lt_of_lt_of_le hi (Nat.min_le_left _ _)))
        obtain ⟨v2, q2, _⟩ := ra2.get (List.getElem?_eq_getElem (Nat.lt_of_lt_of_le hi (Nat.min_le_right _ _)))
        exact ⟨_, _, v, v2, hk.1 ▸ s, hk.1 ▸ s2, q, q2⟩
  stop := fun K' H' M' hk m e => by
    rw [zipD_len]
    cases e _ _ r1 with
    | tup s ra =>
      cases e _ _ r2 with
      | tup s2 ra2 =>
        refine ⟨_, _, hk.1 ▸ s, hk.1 ▸ s2, ?_⟩
        have l1 := ra.length
        have l2 := ra2.length
        omega
  yld := fun K' i x H' M' H'' hk hi m e y => by
    obtain ⟨T, vx, vy, rfl, hT, rfl, f1, f2⟩ := y
    cases e _ _ r1 with
    | tup s ra =>
      cases e _ _ r2 with
      | tup s2 ra2 =>
        obtain ⟨d1, q1, e1⟩ := ra.getV (f1 _ (hk.1 ▸ s))
        obtain ⟨d2, q2, e2⟩ := ra2.getV (f2 _ (hk.1 ▸ s2))
        exact ⟨_, zipD_at q1 q2, rel_pair hT m e1 e2, relM_new m hT, ext_new m hT⟩
theorem itOk_zipL {a b : Addr} {xs ys : List D} (r1 : Rel K H M (.ref a) (.lst xs)) (r2 : Rel K H M (.ref b) (.lst ys)) : ItOk K (Itz K.K a b) (zipD xs ys) H M where
  go := fun K' i H' M' hk hi m e => by
    rw [zipD_len] at hi
    cases e _ _ r1 with
    | lst s ra =>
      cases e _ _ r2 with
      | lst s2 ra2 =>
        obtain ⟨v, q, _⟩ := ra.get (List.getElem?_eq_getElem (Nat.lt_of_lt_of_le hi (Nat.min_le_left _ _)))
        obtain ⟨v2, q2, _⟩ := ra2.get (List.getElem?_eq_getElem (Nat.lt_of_lt_of_le hi (Nat.min_le_right _ _)))
        exact ⟨_, _, v, v2, hk.1 ▸ s.sq, hk.1 ▸ s2.sq, q, q2⟩
  stop := fun K' H' M' hk m e => by
    rw [zipD_len]
    cases e _ _ r1 with
    | lst s ra =>
      cases e _ _ r2 with
      | lst s2 ra2 =>
        refine ⟨_, _, hk.1 ▸ s.sq, hk.1 ▸ s2.sq, ?_⟩
        have l1 := ra.length
        have l2 := ra2.length
        omega
  yld := fun K' i x H' M' H'' hk hi m e y => by
    obtain ⟨T, vx, vy, rfl, hT, rfl, f1, f2⟩ := y
    cases e _ _ r1 with
    | lst s ra =>
      cases e _ _ r2 with
      | lst s2 ra2 =>
        obtain ⟨d1, q1, e1⟩ := ra.getV (f1 _ (hk.1 ▸ s.sq))
        obtain ⟨d2, q2, e2⟩ := ra2.getV (f2 _ (hk.1 ▸ s2.sq))
        exact ⟨_, zipD_at q1 q2, rel_pair hT m e1 e2, relM_new m hT, ext_new m hT⟩
end
def zipR : List D → (List D → MS → Prop) → MS → Prop
  | [.tup xs, .tup ys], R, M => R (zipD xs ys) M
  | [.lst xs, .lst ys], R, M => R (zipD xs ys) M
  | _, _, _ => False
def dZip (t : DTA) : DTI := fun ρ R E M => t ρ (fun ds M1 => zipR ds R M1) E M
theorem di_zip {t : DTA} {pp tpos : Pos} {elts : List Expr} {kk : Nat} (hm : X.mg "zip" = none) (ha : DA X W [a, b] t) (hg : Gl X "zip" := by rfl)
    (hs : starEach [a, b] X.env = (false, eval a X.env) :: starEach [b] X.env := by rfl) (hpl : (backTo pos (starEach [b] X.env)).any (·.1) = false := by rfl) :
    DI X W (.Tuple elts kk tpos) (.Call (.Name "zip" pp) [a, b] [] pos) (dZip t) :=
  impI (RZ.pi_zipA hg hm ha hs hpl) fun σ H Q ⟨z, ρ, M, R, E, hs, hm, h, hc, hE⟩ =>
    ⟨z, ρ, M, _, E, hs, hm, h, fun ds M1 vs H1 h1 m1 r1 e1 => by
      unfold zipR at h1
      split at h1
      · cases r1 with
        | cons x y =>
          cases y with
          | cons y y2 =>
            cases y2
            cases x with
            | tup s ra =>
              cases y with
              | tup s2 ra2 => exact ⟨_, _, _, _, rfl, .inr ⟨s, s2, hc _ _ _ _ h1 m1 e1 (itOk_zipT (.tup s ra) (.tup s2 ra2))⟩⟩
      · cases r1 with
        | cons x y =>
          cases y with
          | cons y y2 =>
            cases y2
            cases x with
            | lst s ra =>
              cases y with
              | lst s2 ra2 => exact ⟨_, _, _, _, rfl, .inl ⟨s.sq, s2.sq, hc _ _ _ _ h1 m1 e1 (itOk_zipL (.lst s ra) (.lst s2 ra2))⟩⟩
      · exact h1.elim, hE⟩
end
section
variable {ρ : Sl} {M : MS} {t : DTA} {xs ys : List D} {R : List D → MS → Prop}
theorem v_zip : dZip t ρ = fun (R : List D → MS → Prop) E M => t ρ (fun ds M1 => zipR ds R M1) E M := (rfl)
theorem q_zipT : zipR [.tup xs, .tup ys] R M = R (zipD xs ys) M := (rfl)
theorem q_zipL : zipR [.lst xs, .lst ys] R M = R (zipD xs ys) M := (rfl)
end
end L2.DL
/-! DLn: fractions (plain) -/
namespace L2.DL
open PySem PySem.Spec PyProof.Rows
variable [Tbs]
/-- a fraction as the program writes it -/
def eF (q : Rat) : D := .tup [.int q.num, .int q.den]
theorem rat_num {a b g : Int} (hb : 0 < b) (e : g = ((Int.gcd a b : Nat) : Int)) : a.fdiv g = (Rat.divInt a b).num := by
  have hd : g ∣ a := by rw [e]; exact Int.gcd_dvd_left ..
  rw [Int.fdiv_eq_ediv_of_dvd hd, Rat.num_divInt, Int.sign_eq_one_of_pos hb, Int.one_mul, Int.gcd_comm, e]
theorem rat_den {a b g : Int} (hb : 0 < b) (e : g = ((Int.gcd a b : Nat) : Int)) : b.fdiv g = ((Rat.divInt a b).den : Int) := by
  have hd : g ∣ b := by rw [e]; exact Int.gcd_dvd_right ..
  rw [Int.fdiv_eq_ediv_of_dvd hd, Rat.den_divInt, if_neg (by omega), Int.gcd_comm b a, e, Int.natCast_ediv]
  rw [show ((b.natAbs : Nat) : Int) = b by omega]
theorem ratn_num {a b g : Int} (hb : b < 0) (e : g = ((Int.gcd a b : Nat) : Int)) : a.fdiv (0 - g) = (Rat.divInt a b).num := by
  have h := rat_num (a := -a) (b := -b) (g := g) (by omega) (by rw [e, Int.gcd_neg, Int.neg_gcd])
  rw [Rat.neg_divInt_neg] at h
  rw [← h, Int.zero_sub]
  have hd : g ∣ a := by rw [e]; exact Int.gcd_dvd_left ..
  rw [Int.fdiv_eq_ediv_of_dvd (Int.neg_dvd.mpr hd), Int.fdiv_eq_ediv_of_dvd (Int.dvd_neg.mpr hd), Int.ediv_neg, Int.neg_ediv_of_dvd hd]
theorem ratn_den {a b g : Int} (hb : b < 0) (e : g = ((Int.gcd a b : Nat) : Int)) : b.fdiv (0 - g) = ((Rat.divInt a b).den : Int) := by
  have h := rat_den (a := -a) (b := -b) (g := g) (by omega) (by rw [e, Int.gcd_neg, Int.neg_gcd])
  rw [Rat.neg_divInt_neg] at h
  rw [← h, Int.zero_sub]
  have hd : g ∣ b := by rw [e]; exact Int.gcd_dvd_right ..
  rw [Int.fdiv_eq_ediv_of_dvd (Int.neg_dvd.mpr hd), Int.fdiv_eq_ediv_of_dvd (Int.dvd_neg.mpr hd), Int.ediv_neg, Int.neg_ediv_of_dvd hd]
/-! sizes -/
def Bd (n : Nat) (i : Int) : Prop := i.natAbs < 2 ^ n
theorem Bd.mono {n m : Nat} {i : Int} (h : Bd n i) (k : n ≤ m) : Bd m i := Nat.lt_of_lt_of_le h (Nat.pow_le_pow_right (by decide) k)
theorem Bd.mul {n m : Nat} {i j : Int} (h : Bd n i) (k : Bd m j) : Bd (n + m) (i * j) := by
  unfold Bd
  rw [Int.natAbs_mul, Nat.pow_add]
  exact Nat.mul_lt_mul'' h k
theorem Bd.add {n : Nat} {i j : Int} (h : Bd n i) (k : Bd n j) : Bd (n + 1) (i + j) := by
  unfold Bd at *
  have := Int.natAbs_add_le i j
  rw [Nat.pow_succ]
  omega
theorem Bd.neg {n : Nat} {i : Int} (h : Bd n i) : Bd n (-i) := by unfold Bd; rw [Int.natAbs_neg]; exact h
theorem Bd.sub {n : Nat} {i j : Int} (h : Bd n i) (k : Bd n j) : Bd (n + 1) (i - j) := by rw [Int.sub_eq_add_neg]; exact h.add k.neg
theorem Bd.log {n : Nat} {i : Int} (h : Bd n i) (hn : 0 < n) : i.natAbs.log2 < n := log2_lt h hn
theorem Bd.cmul {n m : Nat} {i j : Int} (h : Bd n i) (k : Bd m j) (hn : n ≤ 400000) (hm : m ≤ 400000) : CMulX i j := by
  have a := (h.mono (Nat.le_succ n)).log (Nat.succ_pos n)
  have b := (k.mono (Nat.le_succ m)).log (Nat.succ_pos m)
  unfold CMulX
  omega
theorem Bd.of_le {n : Nat} {i j : Int} (h : Bd n j) (k : i.natAbs ≤ j.natAbs) : Bd n i := Nat.lt_of_le_of_lt k h
theorem bd_of {n : Nat} {i : Int} (h : i.natAbs < 2 ^ n) : Bd n i := h
theorem Bd.lt {n : Nat} {i : Int} (h : Bd n i) : i.natAbs < 2 ^ n := h
/-- both parts of the fraction below 2^n -/
structure Sz (n : Nat) (q : Rat) : Prop where
  num : Bd n q.num
  den : Bd n (q.den : Int)
theorem Sz.mono {n m : Nat} {q : Rat} (h : Sz n q) (k : n ≤ m) : Sz m q := ⟨h.num.mono k, h.den.mono k⟩
theorem sz_divInt {n : Nat} {a b : Int} (ha : Bd n a) (hb : Bd n b) (h0 : b ≠ 0) : Sz n (Rat.divInt a b) := by
  refine ⟨ha.of_le ?_, hb.of_le ?_⟩
  · rw [Rat.num_divInt, Int.natAbs_ediv_of_dvd]
    · refine Nat.le_trans (Nat.div_le_self _ _) ?_
      rw [Int.natAbs_mul, Int.natAbs_sign_of_ne_zero h0, Nat.one_mul]
      exact Nat.le_refl _
    · exact Int.dvd_mul_of_dvd_right (Int.gcd_dvd_right ..)
  · rw [Rat.den_divInt, if_neg h0]
    exact Nat.div_le_self _ _
theorem den_pos (q : Rat) : (0 : Int) < q.den := by have := q.den_pos; omega
theorem den_ne (q : Rat) : (q.den : Int) ≠ 0 := by have := den_pos q; omega
theorem self_eq (q : Rat) : Rat.divInt q.num q.den = q := Rat.num_divInt_den q
theorem add_eq (p q : Rat) : Rat.divInt (p.num * q.den + q.num * p.den) (p.den * q.den) = p + q := by
  rw [← Rat.divInt_add_divInt _ _ (den_ne p) (den_ne q), self_eq, self_eq]
theorem sub_eq (p q : Rat) : Rat.divInt (p.num * q.den - q.num * p.den) (p.den * q.den) = p - q := by
  rw [← Rat.divInt_sub_divInt _ _ (den_ne p) (den_ne q), self_eq, self_eq]
theorem mul_eq (p q : Rat) : Rat.divInt (p.num * q.num) (p.den * q.den) = p * q := by
  rw [← Rat.divInt_mul_divInt, self_eq, self_eq]
theorem Sz.add {n m : Nat} {p q : Rat} (h : Sz n p) (k : Sz m q) : Sz (n + m + 1) (p + q) := by
  rw [← add_eq]
  have e := k.num.mul h.den
  rw [Nat.add_comm] at e
  exact sz_divInt ((h.num.mul k.den).add e) ((h.den.mul k.den).mono (Nat.le_succ _)) (Int.mul_ne_zero (den_ne p) (den_ne q))
theorem Sz.sub {n m : Nat} {p q : Rat} (h : Sz n p) (k : Sz m q) : Sz (n + m + 1) (p - q) := by
  rw [← sub_eq]
  have e := k.num.mul h.den
  rw [Nat.add_comm] at e
  exact sz_divInt ((h.num.mul k.den).sub e) ((h.den.mul k.den).mono (Nat.le_succ _)) (Int.mul_ne_zero (den_ne p) (den_ne q))
theorem Sz.mul {n m : Nat} {p q : Rat} (h : Sz n p) (k : Sz m q) : Sz (n + m) (p * q) := by
  rw [← mul_eq]
  exact sz_divInt (h.num.mul k.num) (h.den.mul k.den) (Int.mul_ne_zero (den_ne p) (den_ne q))
theorem eF_inj {p q : Rat} (h : eF p = eF q) : p = q := by
  unfold eF at h
  simp only [D.tup.injEq, List.cons.injEq, D.int.injEq, and_true] at h
  exact Rat.ext h.1 (by omega)
theorem Sz.nice {n : Nat} {q : Rat} (h : Sz n q) {k : Nat} (hn : 2 ^ n ≤ 10 ^ k) (hk : 0 < k) (hk2 : k ≤ 400) : Nice k 1 (8 * k + 2) (eF q) := by
  refine nice_tup (n := 4 * k) (fun d hd => ?_) (by simp only [List.length_cons, List.length_nil]; omega)
  simp only [List.mem_cons, List.not_mem_nil, or_false] at hd
  rcases hd with rfl | rfl
  · exact nice_int hk hk2 (Nat.lt_of_lt_of_le h.num hn)
  · exact nice_int hk hk2 (Nat.lt_of_lt_of_le h.den hn)
/-- fractions are compared by value, whatever their size -/
theorem okP_eF (q : Rat) : okP (eF q) := ⟨rfl, by simp [eF, pd, pds, SeqAt.shaped, PyData.canLay0, PyData.canLayAll0, PyData.depth, PyData.depthAll]⟩
theorem eqv_eF (p q : Rat) : PyData.eqv (pd (eF p)) (pd (eF q)) = decide (p = q) := by
  have e : PyData.eqv (pd (eF p)) (pd (eF q)) = (decide (p.num = q.num) && decide ((p.den : Int) = q.den)) := by
    simp [eF, pd, pds, PyData.eqv, PyData.eqvAll]
    rfl
  rw [e, Bool.eq_iff_iff]
  simp only [Bool.and_eq_true, decide_eq_true_eq]
  constructor
  · exact fun h => Rat.ext h.1 (by omega)
  · rintro rfl; exact ⟨rfl, rfl⟩
theorem eq_eF {f : Bool → Bool} {p q : Rat} {R : PD} {M : MS} (h : R (.bl (f (decide (p = q)))) M) : eqD f (eF p) (eF q) R M := eqD_gen (okP_eF p) (okP_eF q) (by rw [eqv_eF]; exact h)
end L2.DL
namespace L2.DL
open PySem PySem.Spec PyProof.Rows
variable [Tbs]
/-- while, by a measure -/
theorem while_ind {tA : DTT} {t : DTS} {De : DEnds} (I : Nat → Sl → MS → Prop)
    (step : ∀ m ρ M (Kx : Sl → MS → Prop), I m ρ M → (∀ m' ρ' M', m' < m → I m' ρ' M' → Kx ρ' M') → tA ρ (fun k M1 => if k = true then t { De with nx := Kx, ct := Kx, bk := De.nx } ρ M1 else De.nx ρ M1) De.ex M) {m : Nat} {ρ : Sl} {M : MS} (h : I m ρ M) : dWhile tA t De ρ M := by
  have key : ∀ n m ρ M, m < n → I m ρ M → whileW tA t De n ρ M := by
    intro n
    induction n with
    | zero => intro m ρ M h; omega
    | succ n ih =>
      intro m ρ M hm hI
      exact step m ρ M _ hI fun m' ρ' M' h1 h2 => ih m' ρ' M' (by omega) h2
  exact ⟨m + 1, key (m + 1) m ρ M (Nat.lt_succ_self m) h⟩
theorem gcd_step {a b : Int} (ha : 0 ≤ a) (hb : 0 < b) : Int.gcd b (a.fmod b) = Int.gcd a b := by
  obtain ⟨m, rfl⟩ := Int.eq_ofNat_of_zero_le ha
  obtain ⟨n, rfl⟩ := Int.eq_ofNat_of_zero_le (Int.le_of_lt hb)
  rw [Int.fmod_eq_emod_of_nonneg _ (by omega), ← Int.natCast_emod, Int.gcd_natCast_natCast, Int.gcd_natCast_natCast, Nat.gcd_comm m n, Nat.gcd_rec n m, Nat.gcd_comm]
end L2.DL
/-! DLo: comprehensions over mapped lists; tuples of fractions -/
namespace L2.DL
open PySem PySem.Spec PyProof.Rows
variable [Tbs]
theorem lc_mapG {α : Type} {p : Pat} {te : DTE} {vs : List Nat} {ρ : Sl} {R : List D → MS → Prop} {M : MS} (e g : α → D) {ps : List α}
    (step : ∀ x, x ∈ ps → ∀ (R : PD), R (g x) M → patW p (e x) (wipeD ρ vs) (fun ρ1 M1 => te ρ1 R noX M1) M)
    (hn : ps.length ≤ sizeLine) (fin : R (ps.map g) M) : lcW p dYes te vs ρ R (ps.map e) [] M := by
  refine lc_ind (fun its acc M' => M' = M ∧ ∃ pre suf, its = suf.map e ∧ ps = pre ++ suf ∧ acc = pre.map g) ?_ ?_ ⟨rfl, [], ps, rfl, rfl, rfl⟩
  · rintro d ds acc M' Kx ⟨rfl, pre, suf, e0, e1, e2⟩ hk
    cases suf with
    | nil => cases e0
    | cons x suf =>
      cases e0
      have hl : acc.length < sizeLine := by
        rw [e2, List.length_map]
        have := congrArg List.length e1
        rw [List.length_append, List.length_cons] at this
        omega
      exact step x (by rw [e1]; exact List.mem_append_right _ List.mem_cons_self) (fun y M3 => acc.length < sizeLine ∧ Kx (acc ++ [y]) M3) ⟨hl, hk _ _ ⟨rfl, pre ++ [x], suf, rfl, by rw [e1, List.append_assoc]; rfl, by rw [e2, List.map_append]; rfl⟩⟩
  · rintro acc M' ⟨rfl, pre, suf, e0, e1, e2⟩
    have : suf = [] := by cases suf <;> first | rfl | cases e0
    subst this
    rw [List.append_nil] at e1
    rw [e2, ← e1]
    exact fin
theorem zipD_map {α β : Type} (e1 : α → D) (e2 : β → D) : ∀ (us : List α) (cs : List β), zipD (us.map e1) (cs.map e2) = (us.zip cs).map (fun p => .tup [e1 p.1, e2 p.2])
  | [], _ => rfl
  | _ :: _, [] => rfl
  | u :: us, c :: cs => by
    show D.tup [e1 u, e2 c] :: zipD (us.map e1) (cs.map e2) = _
    rw [zipD_map e1 e2 us cs]
    rfl
/-- tuples of fractions -/
def eFs (qs : List Rat) : D := .tup (qs.map eF)
theorem pds_eFs : ∀ qs : List Rat, isPs (qs.map eF) = true ∧ PyData.canLayAll0 (pds (qs.map eF)) = true ∧ PyData.depthAll (pds (qs.map eF)) ≤ 1
  | [] => ⟨rfl, by simp [pds, PyData.canLayAll0], by simp [pds, PyData.depthAll]⟩
  | q :: qs => by
    obtain ⟨a, b, c⟩ := pds_eFs qs
    refine ⟨by show (true && isPs (qs.map eF)) = true; rw [a]; rfl, ?_, ?_⟩
    · simp [List.map_cons, pds, eF, pd, PyData.canLayAll0, PyData.canLay0, b]
    · simp [List.map_cons, pds, eF, pd, PyData.depthAll, PyData.depth]
      omega
theorem okP_of {d : D} (h1 : isP d = true) (h2 : (pd d).canLay0 = true) (h3 : (pd d).depth ≤ 64) : okP d := by
  refine ⟨h1, ?_⟩
  unfold SeqAt.shaped
  rw [h2, decide_eq_true h3]
  rfl
theorem okP_eFs (qs : List Rat) : okP (eFs qs) := by
  obtain ⟨a, b, c⟩ := pds_eFs qs
  refine okP_of a ?_ ?_
  · simp only [eFs, pd, PyData.canLay0, b]
  · simp only [eFs, pd, PyData.depth]; omega
theorem eqvA_eFs : ∀ ps qs : List Rat, PyData.eqvAll (pds (ps.map eF)) (pds (qs.map eF)) = decide (ps = qs)
  | [], [] => by simp [pds, PyData.eqvAll]
  | [], _ :: _ => by simp [pds, PyData.eqvAll]
  | _ :: _, [] => by simp [pds, PyData.eqvAll]
  | p :: ps, q :: qs => by
    have h : PyData.eqvAll (pds ((p :: ps).map eF)) (pds ((q :: qs).map eF)) = (PyData.eqv (pd (eF p)) (pd (eF q)) && PyData.eqvAll (pds (ps.map eF)) (pds (qs.map eF))) := by
      simp [pds, PyData.eqvAll]
    rw [h, eqv_eF, eqvA_eFs ps qs]
    simp [Bool.decide_and]
theorem eq_eFs {f : Bool → Bool} {ps qs : List Rat} {R : PD} {M : MS} (h : R (.bl (f (decide (ps = qs)))) M) : eqD f (eFs ps) (eFs qs) R M := by
  refine eqD_gen (okP_eFs ps) (okP_eFs qs) ?_
  have e : PyData.eqv (pd (eFs ps)) (pd (eFs qs)) = decide (ps = qs) := by
    rw [← eqvA_eFs]
    simp [eFs, pd, PyData.eqv]
  rw [e]
  exact h
theorem repr_bl {b : Bool} {R : PD} {M : MS} (h : R (.str (pd (.bl b)).shown) M) : reprD [.bl b] R M := repr_of (k := 7) nice_bl (by decide) (by decide) (by decide) h
end L2.DL
/-! DLp: isinstance by built-in classes; is True -/
namespace L2.DL
open PySem PySem.Spec PyProof.Rows
variable [Tbs]
/-- the name of a value's class -/
def tyN (M : MS) : D → Option String
  | .non => some "NoneType"
  | .bl _ => some "bool"
  | .int _ => some "int"
  | .str _ => some "str"
  | .tup _ => some "tuple"
  | .lst _ => some "list"
  | .scr _ => some "list"
  | .ref a => match M a with
    | some (.lst _) => some "list"
    | _ => none
  | .ty _ => none
  | .fn _ => none
  | .clo _ _ _ => none
theorem tyx_of {K : ZK} {H : Hp} {M : MS} {v : V} {d : D} {t : String} (m : RelM K H M) (r : Rel K H M v d) (h : tyN M d = some t) : TyX K.K H v (.type t) := by
  cases r with
  | non => cases h; exact .base .non
  | bl b => cases h; exact .base (.bl b)
  | int i => cases h; exact .base (.int i)
  | str x => cases h; exact .base (.str x)
  | ty n => cases h
  | fn s => cases h
  | clo s _ _ => cases h
  | tup s ra =>
    cases h
    rcases s with (s | ⟨ob, s⟩) | ⟨o, its, n, e, c, _⟩
    · exact .base (.tup s)
    · exact .fTuple s
    · exact .kTuple e c
  | lst s ra =>
    cases h
    exact .base (.lst s.2)
  | scr s =>
    cases h
    rcases s with ⟨ob, s⟩ | ⟨o, its, n, e, c, _⟩
    · exact .base (.frz s)
    · exact .kList e c
  | ref a =>
    have h' : (match M a with
      | some (.lst _) => some "list"
      | _ => none) = some t := h
    split at h'
    · rename_i ds q
      cases h'
      obtain ⟨vs, q1, _⟩ := m.at' a _ q
      exact .base (.lst q1)
    · cases h'
def isiD : List D → PD → MS → Prop
  | [x, .ty T], R, M => ∃ t b, tyN M x = some t ∧ kitB t T = some b ∧ R (.bl b) M
  | _, _, _ => False
theorem c_isi {X : Cx} : CallD X (.builtin "isinstance") isiD := by
  refine ⟨_, call_isi, fun z H M xs vs R Q m ra h hc => ?_⟩
  unfold isiD at h
  split at h
  · obtain ⟨t, b, h1, h2, q⟩ := h
    cases ra with
    | cons x y =>
      cases y with
      | cons y y2 =>
        cases y2
        cases y
        exact ⟨_, _, _, _, b, rfl, .ty _, tyx_of m x h1, kit_ty h2, hc.here q m (.bl _)⟩
  · exact h.elim
theorem bt_isinstance : bootBuiltins "isinstance" = some (.builtin "isinstance") := by decide +kernel
theorem bt_bool : bootBuiltins "bool" = some (.type "bool") := by decide +kernel
theorem bt_str : bootBuiltins "str" = some (.type "str") := by decide +kernel
/-- a built-in class by its name -/
theorem de_ty {X : Cx} {W : WX} {x : Str} {n : String} {pos : Pos} (hm : X.mg x = none) (hv : bootBuiltins x = some (.type n)) (hg : Gl X x := by rfl) (hn : x ≠ "__name__" := by decide) (hd : (x == ("__debug__" : Str)) = false := by decide) : DE X W (.Name x pos) (dC (.ty n)) :=
  de_c (v := .ty n) (pe_bltn hg hm hv rfl hn hd) fun _ _ _ => .ty _
section
variable {R : PD} {M : MS}
theorem isi_eq {x : D} {T t : String} {b : Bool} (h1 : tyN M x = some t) (h2 : kitB t T = some b) : isiD [x, .ty T] R M = R (.bl b) M := by
  apply propext
  constructor
  · rintro ⟨t', b', e1, e2, q⟩
    rw [h1] at e1
    cases e1
    rw [h2] at e2
    cases e2
    exact q
  · exact fun q => ⟨t, b, h1, h2, q⟩
theorem q_isi_non_int  : isiD [.non, .ty "int"] R M = R (.bl false) M := isi_eq (t := "NoneType") rfl (by decide +kernel)
theorem q_isi_non_bool  : isiD [.non, .ty "bool"] R M = R (.bl false) M := isi_eq (t := "NoneType") rfl (by decide +kernel)
theorem q_isi_non_str  : isiD [.non, .ty "str"] R M = R (.bl false) M := isi_eq (t := "NoneType") rfl (by decide +kernel)
theorem q_isi_non_tuple  : isiD [.non, .ty "tuple"] R M = R (.bl false) M := isi_eq (t := "NoneType") rfl (by decide +kernel)
theorem q_isi_non_list  : isiD [.non, .ty "list"] R M = R (.bl false) M := isi_eq (t := "NoneType") rfl (by decide +kernel)
theorem q_isi_bl_int {b : Bool} : isiD [(.bl b), .ty "int"] R M = R (.bl true) M := isi_eq (t := "bool") rfl (by decide +kernel)
theorem q_isi_bl_bool {b : Bool} : isiD [(.bl b), .ty "bool"] R M = R (.bl true) M := isi_eq (t := "bool") rfl (by decide +kernel)
theorem q_isi_bl_str {b : Bool} : isiD [(.bl b), .ty "str"] R M = R (.bl false) M := isi_eq (t := "bool") rfl (by decide +kernel)
theorem q_isi_bl_tuple {b : Bool} : isiD [(.bl b), .ty "tuple"] R M = R (.bl false) M := isi_eq (t := "bool") rfl (by decide +kernel)
theorem q_isi_bl_list {b : Bool} : isiD [(.bl b), .ty "list"] R M = R (.bl false) M := isi_eq (t := "bool") rfl (by decide +kernel)
theorem q_isi_int_int {i : Int} : isiD [(.int i), .ty "int"] R M = R (.bl true) M := isi_eq (t := "int") rfl (by decide +kernel)
theorem q_isi_int_bool {i : Int} : isiD [(.int i), .ty "bool"] R M = R (.bl false) M := isi_eq (t := "int") rfl (by decide +kernel)
theorem q_isi_int_str {i : Int} : isiD [(.int i), .ty "str"] R M = R (.bl false) M := isi_eq (t := "int") rfl (by decide +kernel)
theorem q_isi_int_tuple {i : Int} : isiD [(.int i), .ty "tuple"] R M = R (.bl false) M := isi_eq (t := "int") rfl (by decide +kernel)
theorem q_isi_int_list {i : Int} : isiD [(.int i), .ty "list"] R M = R (.bl false) M := isi_eq (t := "int") rfl (by decide +kernel)
theorem q_isi_str_int {s : Str} : isiD [(.str s), .ty "int"] R M = R (.bl false) M := isi_eq (t := "str") rfl (by decide +kernel)
theorem q_isi_str_bool {s : Str} : isiD [(.str s), .ty "bool"] R M = R (.bl false) M := isi_eq (t := "str") rfl (by decide +kernel)
theorem q_isi_str_str {s : Str} : isiD [(.str s), .ty "str"] R M = R (.bl true) M := isi_eq (t := "str") rfl (by decide +kernel)
theorem q_isi_str_tuple {s : Str} : isiD [(.str s), .ty "tuple"] R M = R (.bl false) M := isi_eq (t := "str") rfl (by decide +kernel)
theorem q_isi_str_list {s : Str} : isiD [(.str s), .ty "list"] R M = R (.bl false) M := isi_eq (t := "str") rfl (by decide +kernel)
theorem q_isi_tup_int {ds : List D} : isiD [(.tup ds), .ty "int"] R M = R (.bl false) M := isi_eq (t := "tuple") rfl (by decide +kernel)
theorem q_isi_tup_bool {ds : List D} : isiD [(.tup ds), .ty "bool"] R M = R (.bl false) M := isi_eq (t := "tuple") rfl (by decide +kernel)
theorem q_isi_tup_str {ds : List D} : isiD [(.tup ds), .ty "str"] R M = R (.bl false) M := isi_eq (t := "tuple") rfl (by decide +kernel)
theorem q_isi_tup_tuple {ds : List D} : isiD [(.tup ds), .ty "tuple"] R M = R (.bl true) M := isi_eq (t := "tuple") rfl (by decide +kernel)
theorem q_isi_tup_list {ds : List D} : isiD [(.tup ds), .ty "list"] R M = R (.bl false) M := isi_eq (t := "tuple") rfl (by decide +kernel)
theorem q_isi_lst_int {ds : List D} : isiD [(.lst ds), .ty "int"] R M = R (.bl false) M := isi_eq (t := "list") rfl (by decide +kernel)
theorem q_isi_lst_bool {ds : List D} : isiD [(.lst ds), .ty "bool"] R M = R (.bl false) M := isi_eq (t := "list") rfl (by decide +kernel)
theorem q_isi_lst_str {ds : List D} : isiD [(.lst ds), .ty "str"] R M = R (.bl false) M := isi_eq (t := "list") rfl (by decide +kernel)
theorem q_isi_lst_tuple {ds : List D} : isiD [(.lst ds), .ty "tuple"] R M = R (.bl false) M := isi_eq (t := "list") rfl (by decide +kernel)
theorem q_isi_lst_list {ds : List D} : isiD [(.lst ds), .ty "list"] R M = R (.bl true) M := isi_eq (t := "list") rfl (by decide +kernel)
end
/-! x is None, b is True -/
def isX (f : Bool → Bool) : D → D → PD → MS → Prop
  | .bl a, .bl b, R, M => R (.bl (f (decide (a = b)))) M
  | x, y, R, M => isD f x y R M
theorem o_isX {X : Cx} : OpD X (compareOp .Is) (isX id) := by
  obtain ⟨r, h1, h2⟩ := o_is (X := X)
  refine ⟨_, op_is_bl.or h1, fun z H M x y vx vy R Q m rx ry h hc => ?_⟩
  unfold isX at h
  split at h
  · cases rx
    cases ry
    exact .inl ⟨_, _, rfl, rfl, hc.here h m (.bl _)⟩
  · exact .inr (h2 _ _ _ _ _ _ _ _ _ m rx ry h hc)
theorem o_isnotX {X : Cx} : OpD X (compareOp .IsNot) (isX fun k => !k) := by
  obtain ⟨r, h1, h2⟩ := o_isnot (X := X)
  refine ⟨_, op_isnot_bl.or h1, fun z H M x y vx vy R Q m rx ry h hc => ?_⟩
  unfold isX at h
  split at h
  · cases rx
    cases ry
    exact .inl ⟨_, _, rfl, rfl, hc.here h m (.bl _)⟩
  · exact .inr (h2 _ _ _ _ _ _ _ _ _ m rx ry h hc)
section
variable {R : PD} {M : MS} {f : Bool → Bool} {x : D} {a b : Bool}
theorem q_isX : isX f x .non R M = R (.bl (f (isNon x))) M := by cases x <;> rfl
theorem q_isB : isX f (.bl a) (.bl b) R M = R (.bl (f (decide (a = b)))) M := (rfl)
end
end L2.DL
/-! DLq: zip of two tuples, strict, at the library's level -/
namespace L2.DL
open PySem
variable [Tbs]
theorem zs_type (a b : Value) : checkTypeCall "zip" ⟨[a, b], [("strict", .bool true)]⟩ = pure () := by kernel_rfl
theorem zs_new (a b : Value) : checkBuiltinCall "zip.__new__" ⟨[.type "zip", a, b], [("strict", .bool true)]⟩ = pure () := by kernel_rfl
theorem zs_init (a b c : Value) : argsOk "object.__init__" ⟨[a, b, c], [("strict", .bool true)]⟩ := by
  unfold argsOk; rw [signature?_of (id := "object.__init__") (n := ['_', '_', 't', 'i', 'n', 'i', '_', '_']) (o := ['t', 'c', 'e', 'j', 'b', 'o']) (by kernel_rfl) F.owner_object]; kernel_rfl
section
variable {prog : Program} {w : World} {A : Around} {E : Value → Shared → Prop} {s : Shared}
/-- a built-in class called with keywords -/
theorem typeKw_meets {T newId initId : String} {Bn Bi : Builtin} {args : List Value} {kw : List (Str × Value)} {S : Spec} {Q Q₁ : Value → Shared → Prop} (ft : TypeCalled T newId initId)
    (hct : checkTypeCall T ⟨args, kw⟩ = pure ()) (hcn : checkBuiltinCall newId ⟨.type T :: args, kw⟩ = pure ())
    (entryN : entryFor table newId = some Bn) (entryI : entryFor table initId = some Bi) (g : Meets (Bn ⟨.type T :: args, kw⟩) S)
    (h : S A.in1 (wants Q₁ E) s)
    (hnext : ∀ obj s₁, Q₁ obj s₁ → s₁.TypeIs obj T ∧ argsOk initId ⟨obj :: args, kw⟩ ∧ ∃ Si, Meets (Bi ⟨obj :: args, kw⟩) Si ∧ Si A.in1 (wants (fun r s₂ => r = .none ∧ Q obj s₂) E) s₁) :
    wpAny (model prog w) A (call (.type T) args kw) Q E s := by
  obtain ⟨c, tl, hm⟩ := ft.mro
  have e1 := ft.made
  have e2 := ft.sub
  refine wpAny_call (codeAny_of_tree ?_)
  show wpAny _ _ (callAny (.type T) _) _ _ _
  refine wpAny_pure ⟨Code.quiet_builtin _ (by decide +kernel), codeAny_builtin F.entry_type_call ?_⟩
  rw [Around.under_plain (weight_type_call_type T args kw) (units_type_call_type T args kw)]
  have e3 := ft.notType
  have e4 := ft.canCreate
  repeat (any_goals (first | assumption | wp_step))
  refine codeAny_mono (codeAny_call_builtin ft.plain entryN (wpAny_of_eq hcn (g prog w A.in1 _ s h))) fun rz sz hz => ?_
  cases rz with
  | error e => exact hz
  | ok fl =>
    cases fl with
    | ret obj =>
      obtain ⟨z1, z2, Si, z3, z4⟩ := hnext _ _ hz
      have z5 := ft.init.lookup
      have z6 := ft.init.bind obj
      repeat (any_goals (first | assumption | wp_step))
      refine codeAny_mono (codeAny_call_builtin ft.init.plain entryI (ft.init.check _ _ _ _ _ _ _ _ z1 z2 (z3 prog w A.in1 _ sz z4))) fun ry sy hy => ?_
      cases ry with
      | error e => exact hy
      | ok fy =>
        cases fy with
        | ret r =>
          obtain ⟨rfl, hq⟩ := hy
          repeat (any_goals (first | assumption | wp_step))
        | _ => exact hy.elim
    | _ => exact hz.elim
theorem objInit_kw {T newId : String} {self : Value} {rest : List Value} {kw : List (Str × Value)} (hl : typeLookup (.type T) "__init__" = pure (some (.builtin "object.__init__")))
    (hm : Bind.madeBy (.type T) = pure (some newId)) (hne : (some newId != some "object.__new__") = true) :
    Meets (Builtin.«object.__init__» ⟨self :: rest, kw⟩) (fun _ R s => s.TypeIs self T ∧ R (.ok (.ret .none)) s) := by
  refine Meets.of_wp fun prog w A R s hs => ?_
  obtain ⟨hT, hq⟩ := hs
  cases rest with
  | nil => 
    cases kw with
    | nil => exact wpAny_pure ⟨_, rfl, hq⟩
    | cons k kw =>
      repeat (any_goals (first | assumption | wp_step))
      exact ⟨_, rfl, hq⟩
  | cons a rest =>
    repeat (any_goals (first | assumption | wp_step))
    exact ⟨_, rfl, hq⟩
end
abbrev zsK : List (Str × Value) := [("strict", .bool true)]
/-- zip's own object, strict -/
abbrev IsZs (h : Heap) (z TI TO : Addr) (f0 : Value) (b : Bool) : Prop :=
  h.get? z = some { cls := .type "zip", dict := none, data := .fields #[f0, .bool b, .bool true, .ref TI, .ref TO], slots := #[] }
abbrev zsH5 (h : Heap) (l1 l2 : Addr) : Heap := (RZ.zipTH4 h l1 l2).push { cls := .type "zip", data := .fields #[.none, .bool false, .bool true, .ref (RZ.zipTH2 h l1 l2).objs.size, .ref (RZ.zipTH3 h l1 l2).objs.size] }
theorem zs_meets (l1 l2 : Addr) (xs ys : Array Value) :
    Meets (Builtin.«zip.__new__» ⟨[.type "zip", .ref l1, .ref l2], zsK⟩) (fun _ R s => s.heap.IsTuple l1 xs ∧ s.heap.IsTuple l2 ys ∧
      R (.ok (.ret (.ref (RZ.zipTH4 s.heap l1 l2).objs.size))) { s with heap := zsH5 s.heap l1 l2 }) :=
  .of_wp fun prog w A R s h => by
    obtain ⟨hp, g, d, tk, os⟩ := s; obtain ⟨h1, h2, h⟩ := h
    have hsub := sub_zip
    have t1 : Heap.IsTuple (Shared.heap ⟨hp, g, d, tk, os⟩) l1 xs := h1
    have t2 : Heap.IsTuple (Shared.heap ⟨hp.push { cls := .type "tuple_iterator", data := .fields #[.ref l1, .int 0 0] }, g, d, tk, os⟩) l2 ys := Heap.IsTuple.push h2 _
    wp_walk using wpAny_pyIter_tuple t1, wpAny_pyIter_tuple t2
    exact ⟨_, rfl, h⟩
end L2.DL
namespace L2.DL
open PySem
variable [Tbs]
section
variable {prog : Program} {w : World} {A : Around} {E : Value → Shared → Prop} {s : Shared}
theorem orEnd_item {it l : Addr} {i : Nat} {items : Array Value} {x : Value} {Q : Option Value → Shared → Prop} (h1 : s.heap.IsTupleIter it l i) (h2 : s.heap.IsTuple l items) (hx : items[i]? = some x)
    (hQ : ∀ h', h'.IsTupleIter it l (i + 1) → Heap.SameBut it s.heap h' → Q (some x) { s with heap := h' }) : wpAny (model prog w) A (Builtin.SmallTypes.nextOrEnd (.ref it)) Q E s := by
  unfold Builtin.SmallTypes.nextOrEnd
  exact wpAny_bind (wpAny_attempt (RZ.nextOf_tuple_item h1 h2 hx fun h' a b => wpAny_pure (hQ h' a b)))
theorem orEnd_end {it l : Addr} {i : Nat} {items : Array Value} {Q : Option Value → Shared → Prop} (hh : A.handled = none) (h1 : s.heap.IsTupleIter it l i) (h2 : s.heap.IsTuple l items) (hx : items[i]? = none)
    (hQ : ∀ h', Heap.ExtBut it s.heap h' → Q none { s with heap := h' }) : wpAny (model prog w) A (Builtin.SmallTypes.nextOrEnd (.ref it)) Q E s := by
  unfold Builtin.SmallTypes.nextOrEnd
  refine wpAny_bind (wpAny_attempt (RZ.nextOf_tuple_end hh h1 h2 hx fun h' e k he => ?_))
  obtain ⟨o, ho, hc⟩ := he
  refine wpAny_bind (wpAny_isInstance (T := "StopIteration") (b := true) ⟨o, ho, hc⟩ isSubtype_stop ?_)
  exact wpAny_pure (hQ h' k)
/-- the first pair: the zip's own tuple is free -/
theorem zs_first {z TI TO i1 i2 l1 l2 : Addr} {k1 k2 : Nat} {b0 : Bool} {xs ys : Array Value} {x y a b : Value} {Q : Value → Shared → Prop} (D : ZipApart z TI TO i1 i2 l1 l2)
    (hz : IsZs s.heap z TI TO .none b0) (hTI : IsPair s.heap TI (.ref i1) (.ref i2)) (hTO : IsPair s.heap TO a b)
    (h1 : s.heap.IsTupleIter i1 l1 k1) (h2 : s.heap.IsTupleIter i2 l2 k2) (g1 : s.heap.IsTuple l1 xs) (g2 : s.heap.IsTuple l2 ys) (hx : xs[k1]? = some x) (hy : ys[k2]? = some y)
    (hQ : ∀ h', IsZs h' z TI TO (rawInt s.heap.objs.size) false → IsPair h' TO x y → h'.IsTupleIter i1 l1 (k1 + 1) → h'.IsTupleIter i2 l2 (k2 + 1) → IsPair h' s.heap.objs.size x y → h'.objs.size = s.heap.objs.size + 1 →
      (∀ c o, c ≠ z → c ≠ TO → c ≠ i1 → c ≠ i2 → s.heap.get? c = some o → h'.get? c = some o) → Q (.ref s.heap.objs.size) { s with heap := h' }) :
    wpAny (model prog w) A (Builtin.«zip.__next__» ⟨[.ref z], []⟩) (fun fin s' => ∃ v, fin = .done (.ret v) ∧ Q v s') E s := by
  show wpAny _ _ (field (.ref z) 2 >>= _) _ _ _
  refine wpAny_bind (wpAny_field hz rfl (x := .bool true) rfl ?_)
  show wpAny _ _ (field (.ref z) 3 >>= _) _ _ _
  refine wpAny_bind (wpAny_field hz rfl (x := .ref TI) rfl ?_)
  refine wpAny_bind (wpAny_seqItems hTI rfl ?_)
  show wpAny _ _ (Builtin.SmallTypes.ownedTupleIsFree (.ref z) >>= _) _ _ _
  refine wpAny_bind ?_
  unfold Builtin.SmallTypes.ownedTupleIsFree
  refine wpAny_bind (wpAny_field hz rfl (x := .none) rfl (wpAny_pure ?_))
  simp only [if_true]
  refine wpAny_bind (wpAny_rule ?_)
  refine wpAny_bind (wpAny_field hz rfl (x := .ref TO) rfl ?_)
  refine wpAny_bind (wpAny_setField_rec hz (by simp) fun h₁ hz₁ s1 => ?_)
  replace hz₁ : IsZs h₁ z TI TO .ellipsis b0 := hz₁
  refine wpAny_bind ?_
  simp only [List.zipIdx_cons, List.zipIdx_nil, List.forIn_cons, List.forIn_nil]
  refine wpAny_bind (wpAny_bind (wpAny_onRaise ?_))
  show wpAny _ _ (Builtin.SmallTypes.nextOrEnd (.ref i1)) _ _ _
  refine orEnd_item (h1.extBut s1.extBut D.i1z) (g1.extBut s1.extBut D.l1z) hx fun h₂ h1₂ s2 => ?_
  have hTO₂ : IsPair h₂ TO a b := s2.extBut _ _ D.TOi1 (s1.extBut _ _ D.TOz hTO)
  refine wpAny_bind (wpAny_seqItems hTO₂ rfl ?_)
  refine wpAny_bind (wpAny_updateSeq_pair hTO₂ fun h₃ hTO₃ s3 => ?_)
  replace hTO₃ : IsPair h₃ TO x b := hTO₃
  refine wpAny_bind (wpAny_letGo (wpAny_pure ?_))
  refine wpAny_bind (wpAny_bind (wpAny_onRaise ?_))
  show wpAny _ _ (Builtin.SmallTypes.nextOrEnd (.ref i2)) _ _ _
  refine orEnd_item (((h2.extBut s1.extBut D.i2z).extBut s2.extBut D.i12.symm).extBut s3.extBut D.TOi2.symm)
    (((g2.extBut s1.extBut D.l2z).extBut s2.extBut D.l2i1).extBut s3.extBut D.l2TO) hy fun h₄ h2₄ s4 => ?_
  have hTO₄ : IsPair h₄ TO x b := s4.extBut _ _ D.TOi2 hTO₃
  refine wpAny_bind (wpAny_seqItems hTO₄ rfl ?_)
  refine wpAny_bind (wpAny_updateSeq_pair hTO₄ fun h₅ hTO₅ s5 => ?_)
  replace hTO₅ : IsPair h₅ TO x y := hTO₅
  refine wpAny_bind (wpAny_letGo (wpAny_pure (wpAny_pure ?_)))
  refine wpAny_bind (wpAny_seqItems hTO₅ rfl ?_)
  refine wpAny_bind (wpAny_newTuple ?_)
  have sz5 : h₅.objs.size = s.heap.objs.size := by rw [s5.1, s4.1, s3.1, s2.1, s1.1]
  have hz₅ : IsZs h₅ z TI TO .ellipsis b0 := s5.extBut _ _ D.TOz.symm (s4.extBut _ _ D.i2z.symm (s3.extBut _ _ D.TOz.symm (s2.extBut _ _ D.i1z.symm hz₁)))
  have hk₅ : ∀ c o, c ≠ z → c ≠ TO → c ≠ i1 → c ≠ i2 → s.heap.get? c = some o → h₅.get? c = some o := fun c o c1 c2 c3 c4 e =>
    s5.extBut _ _ c2 (s4.extBut _ _ c4 (s3.extBut _ _ c2 (s2.extBut _ _ c3 (s1.extBut _ _ c1 e))))
  have h1₅ : h₅.IsTupleIter i1 l1 (k1 + 1) := ((h1₂.extBut s3.extBut D.TOi1.symm).extBut s4.extBut D.i12).extBut s5.extBut D.TOi1.symm
  have h2₅ : h₅.IsTupleIter i2 l2 (k2 + 1) := h2₄.extBut s5.extBut D.TOi2.symm
  have zlt : z < h₅.objs.size := Heap.lt_size hz₅
  show wpAny _ _ (Builtin.SmallTypes.ownedTupleHandOut (.ref z) (.ref h₅.objs.size) >>= _) _ _ _
  refine wpAny_bind ?_
  unfold Builtin.SmallTypes.ownedTupleHandOut
  have hz₆ : IsZs (h₅.push { cls := .type "tuple", data := .seq #[x, y] }) z TI TO .ellipsis b0 := Heap.get?_push_of_some _ hz₅
  refine wpAny_bind (wpAny_setField_rec hz₆ (by simp) fun h₇ hz₇ s7 => ?_)
  replace hz₇ : IsZs h₇ z TI TO (rawInt h₅.objs.size) b0 := hz₇
  refine wpAny_setField_rec hz₇ (by simp) fun h₈ hz₈ s8 => ?_
  replace hz₈ : IsZs h₈ z TI TO (rawInt h₅.objs.size) false := hz₈
  have up : ∀ c o, c ≠ z → h₅.get? c = some o → h₈.get? c = some o := fun c o c1 e => s8.extBut _ _ c1 (s7.extBut _ _ c1 (Heap.get?_push_of_some _ e))
  have hT₈ : IsPair h₈ h₅.objs.size x y := s8.extBut _ _ (Nat.ne_of_gt zlt) (s7.extBut _ _ (Nat.ne_of_gt zlt) (Heap.get?_push_size _ rfl))
  have sz8 : h₈.objs.size = h₅.objs.size + 1 := by rw [s8.1, s7.1, Heap.size_push]
  rw [sz5] at hz₈ hT₈ sz8
  refine wpAny_pure ⟨_, rfl, ?_⟩
  show Q (.ref h₅.objs.size) _
  rw [sz5]
  exact hQ h₈ hz₈ (up _ _ D.TOz hTO₅) (h1₅.at fun o e => up _ o D.i1z e) (h2₅.at fun o e => up _ o D.i2z e) hT₈ sz8 fun c o c1 c2 c3 c4 e => up c o c1 (hk₅ c o c1 c2 c3 c4 e)
end
end L2.DL
namespace L2.DL
open PySem
variable [Tbs]
section
variable {prog : Program} {w : World} {A : Around} {E : Value → Shared → Prop} {s : Shared}
theorem loadAlive_ok {a : Addr} {Q : Option Obj → Shared → Prop} (h : Q (s.heap.get? a) s) : wpAny (model prog w) A (loadIfAlive a) Q E s := by
  intro Γ p _
  unfold loadIfAlive
  rw [PySem.Sem.wp_loadIfAlive]
  exact h
theorem zs_free {z TI TO T1 : Addr} {b0 : Bool} {oT : Obj} (hz : IsZs s.heap z TI TO (rawInt T1) b0) (hT1 : s.heap.get? T1 = some oT) :
    wpAny (model prog w) A (Builtin.SmallTypes.ownedTupleIsFree (.ref z)) (fun b s' => b = false ∧ ∃ h', s' = { s with heap := h' } ∧ IsZs h' z TI TO (rawInt T1) true ∧ h'.objs.size = s.heap.objs.size ∧ ∀ c o, c ≠ z → s.heap.get? c = some o → h'.get? c = some o) E s := by
  unfold Builtin.SmallTypes.ownedTupleIsFree
  refine wpAny_bind (wpAny_field hz rfl (x := rawInt T1) rfl ?_)
  show wpAny _ _ (loadIfAlive (Int.toNat (T1 : Nat)) >>= _) _ _ _
  rw [Int.toNat_natCast]
  refine wpAny_bind (loadAlive_ok ?_)
  rw [hT1]
  simp only [Option.isNone_some, Bool.false_eq_true, if_false]
  refine wpAny_bind (wpAny_field hz rfl (x := .bool b0) rfl ?_)
  cases b0 with
  | true =>
    rw [if_neg (by decide)]
    exact wpAny_bind (wpAny_pure (wpAny_pure ⟨rfl, s.heap, rfl, hz, rfl, fun c o _ e => e⟩))
  | false =>
    rw [if_pos (by decide)]
    refine wpAny_bind (wpAny_setField_rec hz (by simp) fun h₁ hz₁ s1 => wpAny_pure ⟨rfl, h₁, rfl, hz₁, s1.1, fun c o c1 e => s1.extBut _ _ c1 e⟩)
/-- a later pair: the zip's first tuple lives on -/
theorem zs_later {z TI TO i1 i2 l1 l2 T1 : Addr} {k1 k2 : Nat} {b0 : Bool} {xs ys : Array Value} {x y : Value} {oT : Obj} {Q : Value → Shared → Prop} (D : ZipApart z TI TO i1 i2 l1 l2)
    (hz : IsZs s.heap z TI TO (rawInt T1) b0) (hT1 : s.heap.get? T1 = some oT) (hTI : IsPair s.heap TI (.ref i1) (.ref i2))
    (h1 : s.heap.IsTupleIter i1 l1 k1) (h2 : s.heap.IsTupleIter i2 l2 k2) (g1 : s.heap.IsTuple l1 xs) (g2 : s.heap.IsTuple l2 ys) (hx : xs[k1]? = some x) (hy : ys[k2]? = some y)
    (hQ : ∀ h', IsZs h' z TI TO (rawInt T1) true → h'.IsTupleIter i1 l1 (k1 + 1) → h'.IsTupleIter i2 l2 (k2 + 1) → IsPair h' s.heap.objs.size x y → h'.objs.size = s.heap.objs.size + 1 →
      (∀ c o, c ≠ z → c ≠ i1 → c ≠ i2 → s.heap.get? c = some o → h'.get? c = some o) → Q (.ref s.heap.objs.size) { s with heap := h' }) :
    wpAny (model prog w) A (Builtin.«zip.__next__» ⟨[.ref z], []⟩) (fun fin s' => ∃ v, fin = .done (.ret v) ∧ Q v s') E s := by
  show wpAny _ _ (field (.ref z) 2 >>= _) _ _ _
  refine wpAny_bind (wpAny_field hz rfl (x := .bool true) rfl ?_)
  show wpAny _ _ (field (.ref z) 3 >>= _) _ _ _
  refine wpAny_bind (wpAny_field hz rfl (x := .ref TI) rfl ?_)
  refine wpAny_bind (wpAny_seqItems hTI rfl ?_)
  show wpAny _ _ (Builtin.SmallTypes.ownedTupleIsFree (.ref z) >>= _) _ _ _
  refine wpAny_bind (wpAny_mono (zs_free hz hT1) (fun b s' hb => ?_) fun _ _ e => e)
  obtain ⟨rfl, h₁, rfl, hz₁, sz1, kp1⟩ := hb
  simp only [Bool.false_eq_true, if_false]
  refine wpAny_bind ?_
  rw [← Array.forIn_toList]
  simp only [List.forIn_cons, List.forIn_nil]
  refine wpAny_bind (wpAny_bind (wpAny_holding ?_))
  show wpAny _ _ (Builtin.SmallTypes.nextOrEnd (.ref i1)) _ _ _
  have h1' : h₁.IsTupleIter i1 l1 k1 := h1.at fun o e => kp1 _ o D.i1z e
  have h2' : h₁.IsTupleIter i2 l2 k2 := h2.at fun o e => kp1 _ o D.i2z e
  have g1' : h₁.IsTuple l1 xs := g1.at fun o e => kp1 _ o D.l1z e
  have g2' : h₁.IsTuple l2 ys := g2.at fun o e => kp1 _ o D.l2z e
  refine orEnd_item (s := { s with heap := h₁ }) h1' g1' hx fun h₂ h1₂ s2 => ?_
  refine wpAny_pure ?_
  refine wpAny_bind (wpAny_bind (wpAny_holding ?_))
  show wpAny _ _ (Builtin.SmallTypes.nextOrEnd (.ref i2)) _ _ _
  refine orEnd_item (s := { s with heap := h₂ }) (h2'.extBut s2.extBut D.i12.symm) (g2'.extBut s2.extBut D.l2i1) hy fun h₃ h2₃ s3 => ?_
  refine wpAny_pure (wpAny_pure ?_)
  refine wpAny_bind (wpAny_newTuple (items := [x, y]) (hsz := by show (2 : Nat) ≤ sizeLine; decide) ?_)
  have sz3 : h₃.objs.size = s.heap.objs.size := by rw [s3.1, s2.1, sz1]
  have kp : ∀ c o, c ≠ z → c ≠ i1 → c ≠ i2 → s.heap.get? c = some o → (h₃.push { cls := .type "tuple", data := .seq #[x, y] }).get? c = some o := fun c o c1 c2 c3 e =>
    Heap.get?_push_of_some _ (s3.extBut _ _ c3 (s2.extBut _ _ c2 (kp1 _ _ c1 e)))
  refine wpAny_pure ⟨_, rfl, ?_⟩
  show Q (.ref h₃.objs.size) _
  rw [sz3]
  have hp : IsPair (h₃.push { cls := .type "tuple", data := .seq #[x, y] }) h₃.objs.size x y := Heap.get?_push_size _ rfl
  rw [sz3] at hp
  exact hQ _ (Heap.get?_push_of_some _ (s3.extBut _ _ D.i2z.symm (s2.extBut _ _ D.i1z.symm hz₁))) ((h1₂.extBut s3.extBut D.i12).at fun o e => Heap.get?_push_of_some _ e) (h2₃.at fun o e => Heap.get?_push_of_some _ e) hp (by rw [Heap.size_push, sz3]) kp
end
end L2.DL
namespace L2.DL
open PySem
variable [Tbs]
section
variable {prog : Program} {w : World} {A : Around} {E : Value → Shared → Prop} {s : Shared}
theorem stop_ok {Q : Fin → Shared → Prop} (hh : A.handled = none) (hE : ∀ h' e, (∀ b o, s.heap.get? b = some o → h'.get? b = some o) → (∃ o, h'.get? e = some o ∧ o.cls = .type "StopIteration") → E (.ref e) { s with heap := h' }) :
    wpAny (model prog w) A (Builtin.SmallTypes.stopIteration : Sem Fin) Q E s := by
  show wpAny _ _ (newExc (.type "StopIteration") [] >>= _) _ _ _
  refine wpAny_bind ?_
  simp only [newExc, newTuple]
  refine wpAny_bind (wpAny_newObj_type ?_ (by size_fits))
  refine wpAny_bind (m := firstArgMember _ _) (wpAny_of_eq (a := Value.none) (by first | rfl | (simp only [firstArgMember]; rfl)) ?_)
  refine wpAny_newObj_type ?_ (by size_fits)
  simp only [raiseNew]
  refine wpAny_bind (wpAny_handled ?_)
  rw [hh]
  first
    | refine wpAny_throw ?_
    | refine wpAny_bind (wpAny_pure (wpAny_throw ?_))
  exact hE _ _ (fun b o hb => Heap.get?_push_of_some _ (Heap.get?_push_of_some _ hb)) ⟨_, Heap.get?_push_size _ rfl, rfl⟩
/-- both ended, the zip's own tuple free -/
theorem zs_end0 {z TI TO i1 i2 l1 l2 : Addr} {k1 k2 : Nat} {b0 : Bool} {xs ys : Array Value} {Q : Fin → Shared → Prop} (hh : A.handled = none) (D : ZipApart z TI TO i1 i2 l1 l2)
    (hz : IsZs s.heap z TI TO .none b0) (hTI : IsPair s.heap TI (.ref i1) (.ref i2))
    (h1 : s.heap.IsTupleIter i1 l1 k1) (h2 : s.heap.IsTupleIter i2 l2 k2) (g1 : s.heap.IsTuple l1 xs) (g2 : s.heap.IsTuple l2 ys) (hx : xs[k1]? = none) (hy : ys[k2]? = none)
    (hE : ∀ h' e, (∀ c o, c ≠ z → c ≠ i1 → c ≠ i2 → s.heap.get? c = some o → h'.get? c = some o) → (∃ o, h'.get? e = some o ∧ o.cls = .type "StopIteration") → E (.ref e) { s with heap := h' }) :
    wpAny (model prog w) A (Builtin.«zip.__next__» ⟨[.ref z], []⟩) Q E s := by
  show wpAny _ _ (field (.ref z) 2 >>= _) _ _ _
  refine wpAny_bind (wpAny_field hz rfl (x := .bool true) rfl ?_)
  show wpAny _ _ (field (.ref z) 3 >>= _) _ _ _
  refine wpAny_bind (wpAny_field hz rfl (x := .ref TI) rfl ?_)
  refine wpAny_bind (wpAny_seqItems hTI rfl ?_)
  show wpAny _ _ (Builtin.SmallTypes.ownedTupleIsFree (.ref z) >>= _) _ _ _
  refine wpAny_bind ?_
  unfold Builtin.SmallTypes.ownedTupleIsFree
  refine wpAny_bind (wpAny_field hz rfl (x := .none) rfl (wpAny_pure ?_))
  simp only [if_true]
  refine wpAny_bind (wpAny_rule ?_)
  refine wpAny_bind (wpAny_field hz rfl (x := .ref TO) rfl ?_)
  refine wpAny_bind (wpAny_setField_rec hz (by simp) fun h₁ hz₁ s1 => ?_)
  replace hz₁ : IsZs h₁ z TI TO .ellipsis b0 := hz₁
  refine wpAny_bind ?_
  simp only [List.zipIdx_cons, List.zipIdx_nil, List.forIn_cons, List.forIn_nil]
  refine wpAny_bind (wpAny_bind (wpAny_onRaise ?_))
  show wpAny _ _ (Builtin.SmallTypes.nextOrEnd (.ref i1)) _ _ _
  refine orEnd_end hh (h1.extBut s1.extBut D.i1z) (g1.extBut s1.extBut D.l1z) hx fun h₂ s2 => ?_
  have hz₂ : IsZs h₂ z TI TO .ellipsis b0 := s2 _ _ D.i1z.symm hz₁
  refine wpAny_bind (wpAny_setField_rec hz₂ (by simp) fun h₃ hz₃ s3 => ?_)
  refine wpAny_bind ?_
  show wpAny _ _ (forIn [(Value.ref i2, 1)] PUnit.unit _ >>= _) _ _ _
  simp only [List.forIn_cons, List.forIn_nil]
  refine wpAny_bind (wpAny_bind ?_)
  refine wpAny_bind (orEnd_end hh (((h2.extBut s1.extBut D.i2z).extBut s2 D.i12.symm).extBut s3.extBut D.i2z) (((g2.extBut s1.extBut D.l2z).extBut s2 D.l2i1).extBut s3.extBut D.l2z) hy fun h₄ s4 => ?_)
  rw [if_neg (by decide)]
  refine wpAny_pure (wpAny_pure (wpAny_bind (wpAny_rule ?_)))
  refine stop_ok hh fun h₅ e kp he => hE h₅ e (fun c o c1 c2 c3 q => kp _ _ (s4 _ _ c3 (s3.extBut _ _ c1 (s2 _ _ c2 (s1.extBut _ _ c1 q))))) he
/-- both ended, the zip's first tuple alive -/
theorem zs_endL {z TI TO i1 i2 l1 l2 T1 : Addr} {k1 k2 : Nat} {b0 : Bool} {xs ys : Array Value} {oT : Obj} {Q : Fin → Shared → Prop} (hh : A.handled = none) (D : ZipApart z TI TO i1 i2 l1 l2)
    (hz : IsZs s.heap z TI TO (rawInt T1) b0) (hT1 : s.heap.get? T1 = some oT) (hTI : IsPair s.heap TI (.ref i1) (.ref i2))
    (h1 : s.heap.IsTupleIter i1 l1 k1) (h2 : s.heap.IsTupleIter i2 l2 k2) (g1 : s.heap.IsTuple l1 xs) (g2 : s.heap.IsTuple l2 ys) (hx : xs[k1]? = none) (hy : ys[k2]? = none)
    (hE : ∀ h' e, (∀ c o, c ≠ z → c ≠ i1 → c ≠ i2 → s.heap.get? c = some o → h'.get? c = some o) → (∃ o, h'.get? e = some o ∧ o.cls = .type "StopIteration") → E (.ref e) { s with heap := h' }) :
    wpAny (model prog w) A (Builtin.«zip.__next__» ⟨[.ref z], []⟩) Q E s := by
  show wpAny _ _ (field (.ref z) 2 >>= _) _ _ _
  refine wpAny_bind (wpAny_field hz rfl (x := .bool true) rfl ?_)
  show wpAny _ _ (field (.ref z) 3 >>= _) _ _ _
  refine wpAny_bind (wpAny_field hz rfl (x := .ref TI) rfl ?_)
  refine wpAny_bind (wpAny_seqItems hTI rfl ?_)
  show wpAny _ _ (Builtin.SmallTypes.ownedTupleIsFree (.ref z) >>= _) _ _ _
  refine wpAny_bind (wpAny_mono (zs_free hz hT1) (fun b s' hb => ?_) fun _ _ e => e)
  obtain ⟨rfl, h₁, rfl, hz₁, sz1, kp1⟩ := hb
  simp only [Bool.false_eq_true, if_false]
  refine wpAny_bind ?_
  rw [← Array.forIn_toList]
  simp only [List.forIn_cons, List.forIn_nil]
  refine wpAny_bind (wpAny_bind (wpAny_holding ?_))
  show wpAny _ _ (Builtin.SmallTypes.nextOrEnd (.ref i1)) _ _ _
  have h1' : h₁.IsTupleIter i1 l1 k1 := h1.at fun o e => kp1 _ o D.i1z e
  have h2' : h₁.IsTupleIter i2 l2 k2 := h2.at fun o e => kp1 _ o D.i2z e
  have g1' : h₁.IsTuple l1 xs := g1.at fun o e => kp1 _ o D.l1z e
  have g2' : h₁.IsTuple l2 ys := g2.at fun o e => kp1 _ o D.l2z e
  refine orEnd_end (s := { s with heap := h₁ }) hh h1' g1' hx fun h₂ s2 => ?_
  refine wpAny_bind ?_
  show wpAny _ _ (forIn [(Value.ref i2, 1)] PUnit.unit _ >>= _) _ _ _
  simp only [List.forIn_cons, List.forIn_nil]
  refine wpAny_bind (wpAny_bind ?_)
  refine wpAny_bind (orEnd_end hh (h2'.extBut s2 D.i12.symm) (g2'.extBut s2 D.l2i1) hy fun h₄ s4 => ?_)
  rw [if_neg (by decide)]
  refine wpAny_pure (wpAny_pure (wpAny_bind (wpAny_rule ?_)))
  refine stop_ok hh fun h₅ e kp he => hE h₅ e (fun c o c1 c2 c3 q => kp _ _ (s4 _ _ c3 (s2 _ _ c2 (kp1 _ _ c1 q)))) he
end
end L2.DL
/-! DLr: list(zip(a, b, strict=True)) of two tuples -/
/-! zip's steps told alike; the call of it -/
namespace L2.DL
open PySem
variable [Tbs]
/-- the zip at its i-th turn -/
structure ZsSt (h : Heap) (S z TI TO i1 i2 l1 l2 : Addr) (xs ys : Array Value) (i : Nat) : Prop where
  zip : ∃ f0 b, IsZs h z TI TO f0 b ∧ (f0 = .none ∨ ∃ T1 oT, f0 = rawInt (T1 : Nat) ∧ h.get? T1 = some oT ∧ T1 ≠ z ∧ T1 ≠ i1 ∧ T1 ≠ i2 ∧ T1 ≠ S)
  ti : IsPair h TI (.ref i1) (.ref i2)
  to : ∃ a b, IsPair h TO a b
  it1 : h.IsTupleIter i1 l1 i
  it2 : h.IsTupleIter i2 l2 i
  t1 : h.IsTuple l1 xs
  t2 : h.IsTuple l2 ys
theorem ZsSt.keeps {h h' : Heap} {S z TI TO i1 i2 l1 l2 : Addr} {xs ys : Array Value} {i : Nat} (st : ZsSt h S z TI TO i1 i2 l1 l2 xs ys i) (k : ∀ c o, c ≠ S → h.get? c = some o → h'.get? c = some o)
    (n1 : z ≠ S) (n2 : TI ≠ S) (n3 : TO ≠ S) (n4 : i1 ≠ S) (n5 : i2 ≠ S) (n6 : l1 ≠ S) (n7 : l2 ≠ S) : ZsSt h' S z TI TO i1 i2 l1 l2 xs ys i := by
  obtain ⟨⟨f0, b, e1, e2⟩, e3, ⟨x, y, e4⟩, e5, e6, e7, e8⟩ := st
  refine ⟨⟨f0, b, k _ _ n1 e1, ?_⟩, k _ _ n2 e3, ⟨x, y, k _ _ n3 e4⟩, e5.at fun o e => k _ o n4 e, e6.at fun o e => k _ o n5 e, e7.at fun o e => k _ o n6 e, e8.at fun o e => k _ o n7 e⟩
  rcases e2 with e2 | ⟨T1, oT, q1, q2, q3⟩
  · exact .inl e2
  · exact .inr ⟨T1, oT, q1, k _ _ q3.2.2.2 q2, q3⟩
section
variable {prog : Program} {w : World} {A : Around} {E : Value → Shared → Prop} {s : Shared}
theorem zs_step {S z TI TO i1 i2 l1 l2 : Addr} {i : Nat} {xs ys : Array Value} {x y : Value} {Q : Option Value → Shared → Prop} (D : ZipApart z TI TO i1 i2 l1 l2)
    (st : ZsSt s.heap S z TI TO i1 i2 l1 l2 xs ys i) (hS : S < s.heap.objs.size) (hx : xs[i]? = some x) (hy : ys[i]? = some y)
    (hQ : ∀ h', ZsSt h' S z TI TO i1 i2 l1 l2 xs ys (i + 1) → IsPair h' s.heap.objs.size x y →
      (∀ c o, c ≠ z → c ≠ TO → c ≠ i1 → c ≠ i2 → s.heap.get? c = some o → h'.get? c = some o) → Q (some (.ref s.heap.objs.size)) { s with heap := h' }) :
    wpAny (model prog w) A (pyNext (.ref z)) Q E s := by
  obtain ⟨⟨f0, b, hz, hf⟩, hTI, ⟨p, q, hTO⟩, h1, h2, g1, g2⟩ := st
  have hT : s.TypeIs (.ref z) "zip" := ⟨_, hz, rfl⟩
  unfold pyNext
  refine wpAny_bind (wpAny_attempt (wpAny_callSpecial?_slot (name := Str.ofString "__next__") hT F.slot_zip_next
    (wpAny_call_entry F.slot_zip_next hT F.entry_zip_next ?_ (F.args_zip_next_1 _))))
  have lt : ∀ {c o}, s.heap.get? c = some o → s.heap.objs.size ≠ c := fun e => Nat.ne_of_gt (Heap.lt_size e)
  have n1 : s.heap.objs.size ≠ i1 := by obtain ⟨_, e, _⟩ := h1; exact lt e
  have n2 : s.heap.objs.size ≠ i2 := by obtain ⟨_, e, _⟩ := h2; exact lt e
  rcases hf with rfl | ⟨T1, oT, rfl, hT1, m1, m2, m3, m4⟩
  · refine zs_first D hz hTI hTO h1 h2 g1 g2 hx hy fun h' a1 a2 a3 a4 a5 a6 a7 => wpAny_pure (hQ h' ?_ a5 a7)
    exact ⟨⟨_, _, a1, .inr ⟨_, _, rfl, a5, lt hz, n1, n2, Nat.ne_of_gt hS⟩⟩, a7 _ _ D.TIz D.TITO D.TIi1 D.TIi2 hTI, ⟨_, _, a2⟩, a3, a4,
        g1.at fun o e => a7 _ o D.l1z D.l1TO D.l1i1 D.l1i2 e, g2.at fun o e => a7 _ o D.l2z D.l2TO D.l2i1 D.l2i2 e⟩
  · refine zs_later D hz hT1 hTI h1 h2 g1 g2 hx hy fun h' a1 a3 a4 a5 a6 a7 => wpAny_pure (hQ h' ?_ a5 fun c o c1 _ c3 c4 e => a7 c o c1 c3 c4 e)
    exact ⟨⟨_, _, a1, .inr ⟨T1, oT, rfl, a7 _ _ m1 m2 m3 hT1, m1, m2, m3, m4⟩⟩, a7 _ _ D.TIz D.TIi1 D.TIi2 hTI, ⟨_, _, a7 _ _ D.TOz D.TOi1 D.TOi2 hTO⟩, a3, a4,
        g1.at fun o e => a7 _ o D.l1z D.l1i1 D.l1i2 e, g2.at fun o e => a7 _ o D.l2z D.l2i1 D.l2i2 e⟩
theorem zs_stop {S z TI TO i1 i2 l1 l2 : Addr} {i : Nat} {xs ys : Array Value} {Q : Option Value → Shared → Prop} (hh : A.handled = none) (D : ZipApart z TI TO i1 i2 l1 l2)
    (st : ZsSt s.heap S z TI TO i1 i2 l1 l2 xs ys i) (hx : xs[i]? = none) (hy : ys[i]? = none)
    (hQ : ∀ h', (∀ c o, c ≠ z → c ≠ TO → c ≠ i1 → c ≠ i2 → s.heap.get? c = some o → h'.get? c = some o) → Q none { s with heap := h' }) :
    wpAny (model prog w) A (pyNext (.ref z)) Q E s := by
  obtain ⟨⟨f0, b, hz, hf⟩, hTI, ⟨p, q, hTO⟩, h1, h2, g1, g2⟩ := st
  have hT : s.TypeIs (.ref z) "zip" := ⟨_, hz, rfl⟩
  unfold pyNext
  refine wpAny_bind (wpAny_attempt (wpAny_callSpecial?_slot (name := Str.ofString "__next__") hT F.slot_zip_next
    (wpAny_call_entry F.slot_zip_next hT F.entry_zip_next ?_ (F.args_zip_next_1 _))))
  rcases hf with rfl | ⟨T1, oT, rfl, hT1, m1, m2, m3, m4⟩
  · refine zs_end0 hh D hz hTI h1 h2 g1 g2 hx hy fun h' e k he => ?_
    obtain ⟨o, ho, hc⟩ := he
    refine wpAny_bind (wpAny_isInstance (T := "StopIteration") (b := true) ⟨o, ho, hc⟩ isSubtype_stop ?_)
    exact wpAny_pure (hQ _ fun c o c1 _ c3 c4 e => k c o c1 c3 c4 e)
  · refine zs_endL hh D hz hT1 hTI h1 h2 g1 g2 hx hy fun h' e k he => ?_
    obtain ⟨o, ho, hc⟩ := he
    refine wpAny_bind (wpAny_isInstance (T := "StopIteration") (b := true) ⟨o, ho, hc⟩ isSubtype_stop ?_)
    exact wpAny_pure (hQ _ fun c o c1 _ c3 c4 e => k c o c1 c3 c4 e)
theorem call_zs {l1 l2 : Addr} {xs ys : Array Value} {Q : Value → Shared → Prop} (g1 : s.heap.IsTuple l1 xs) (g2 : s.heap.IsTuple l2 ys)
    (h : ∀ h', IsZs h' (s.heap.objs.size + 4) (s.heap.objs.size + 2) (s.heap.objs.size + 3) .none false → IsPair h' (s.heap.objs.size + 2) (.ref s.heap.objs.size) (.ref (s.heap.objs.size + 1)) →
      IsPair h' (s.heap.objs.size + 3) .none .none → h'.IsTupleIter s.heap.objs.size l1 0 → h'.IsTupleIter (s.heap.objs.size + 1) l2 0 → h'.objs.size = s.heap.objs.size + 5 →
      (∀ c o, s.heap.get? c = some o → h'.get? c = some o) → Q (.ref (s.heap.objs.size + 4)) { s with heap := h' }) :
    wpAny (model prog w) A (call (.type "zip") [.ref l1, .ref l2] zsK) Q E s := by
  refine typeKw_meets (Q₁ := fun obj s₁ => s₁.TypeIs obj "zip" ∧ Q obj s₁) F.called_zip (zs_type _ _) (zs_new _ _) F.entry_zip_new F.entry_object_init (zs_meets l1 l2 xs ys) ⟨g1, g2, ?_⟩ fun obj s₁ hq =>
    ⟨hq.1, zs_init _ _ _, _, objInit_kw F.called_zip.init.lookup F.called_zip.made (by decide), hq.1, rfl, hq.2⟩
  have z1 : (RZ.zipTH1 s.heap l1).objs.size = s.heap.objs.size + 1 := Heap.size_push ..
  have z2 : (RZ.zipTH2 s.heap l1 l2).objs.size = s.heap.objs.size + 2 := by rw [Heap.size_push, z1]
  have z3 : (RZ.zipTH3 s.heap l1 l2).objs.size = s.heap.objs.size + 3 := by rw [Heap.size_push, z2]
  have z4 : (RZ.zipTH4 s.heap l1 l2).objs.size = s.heap.objs.size + 4 := by rw [Heap.size_push, z3]
  have z5 : (zsH5 s.heap l1 l2).objs.size = s.heap.objs.size + 5 := by rw [Heap.size_push, z4]
  have q5 : (zsH5 s.heap l1 l2).get? (RZ.zipTH4 s.heap l1 l2).objs.size = some _ := Heap.get?_push_size _ rfl
  have q4 : (zsH5 s.heap l1 l2).get? (RZ.zipTH3 s.heap l1 l2).objs.size = some _ := Heap.get?_push_of_some _ (Heap.get?_push_size _ rfl)
  have q3 : (zsH5 s.heap l1 l2).get? (RZ.zipTH2 s.heap l1 l2).objs.size = some _ := Heap.get?_push_of_some _ (Heap.get?_push_of_some _ (Heap.get?_push_size _ rfl))
  have q2 : (zsH5 s.heap l1 l2).get? (RZ.zipTH1 s.heap l1).objs.size = some _ := Heap.get?_push_of_some _ (Heap.get?_push_of_some _ (Heap.get?_push_of_some _ (Heap.get?_push_size _ rfl)))
  have q1 : (zsH5 s.heap l1 l2).get? s.heap.objs.size = some _ := Heap.get?_push_of_some _ (Heap.get?_push_of_some _ (Heap.get?_push_of_some _ (Heap.get?_push_of_some _ (Heap.get?_push_size _ rfl))))
  show _ ∧ _
  rw [z2, z3, z4] at q5
  rw [z1, z2] at q3
  rw [z3] at q4
  rw [z1] at q2
  rw [z4]
  exact ⟨⟨_, q5, rfl⟩, h _ q5 q3 q4 ⟨_, q1, rfl, rfl⟩ ⟨_, q2, rfl, rfl⟩ z5 fun c o x =>
    Heap.get?_push_of_some _ (Heap.get?_push_of_some _ (Heap.get?_push_of_some _ (Heap.get?_push_of_some _ (Heap.get?_push_of_some _ x))))⟩
end
end L2.DL
/-! list(zip(a, b, strict=True)) of two tuples -/
namespace L2.DL
open PySem PySem.Spec PyProof.Rows
variable [Tbs]
inductive ZipG (H : Hp) : List V → List V → List V → Hp → Prop
  | nil : ZipG H [] [] [] H
  | snoc {xs ys outs : List V} {G : Hp} {x y : V} {T : Addr} : ZipG H xs ys outs G → G T = none → ZipG H (xs ++ [x]) (ys ++ [y]) (outs ++ [.ref T]) (upd G T (.tup [x, y]))
theorem upd3 {G : Hp} {S T : Addr} {l l' t : HO} (h : T ≠ S) : upd (upd (upd G S l) T t) S l' = upd (upd G T t) S l' := by
  funext b
  by_cases e : b = S
  · rw [e, upd_same, upd_same]
  · rw [upd_ne e, upd_ne e]
    by_cases e2 : b = T
    · rw [e2, upd_same, upd_same]
    · rw [upd_ne e2, upd_ne e2, upd_ne e]
theorem drainZ {X : Cx} {pins : List (Addr × Obj)} {σ : St} {A : Around} {z TI TO i1 i2 l1 l2 S : Addr} {H0 : Hp} {xs ys : List V} {us1 us2 : List Value} {R : Result → Shared → Prop} {res : Value} (hh : A.handled = none) (D : ZipApart z TI TO i1 i2 l1 l2)
    (r1 : Vals xs us1) (r2 : Vals ys us2) (hl : xs.length = ys.length) (hz : xs.length ≤ sizeLine) (n1 : z ≠ S) (n2 : TI ≠ S) (n3 : TO ≠ S) (n4 : i1 ≠ S) (n5 : i2 ≠ S) (n6 : l1 ≠ S) (n7 : l2 ≠ S)
    (hend : ∀ G outs s', ZipG H0 xs ys outs G → G S = none → Inv X pins σ (upd G S (.lst outs)) s' → R (.ok (.ret res)) s') :
    ∀ m i G outs s, i + m = xs.length → ZipG H0 (xs.take i) (ys.take i) outs G → G S = none → Inv X pins σ (upd G S (.lst outs)) s → ZsSt s.heap S z TI TO i1 i2 l1 l2 us1.toArray us2.toArray i →
      (∀ c ∈ [z, TI, TO, i1, i2], FpOk X pins (upd G S (.lst outs)) c) → outs.length = i → codeAny (model X.prog X.w) A (.builtin "list.extend.loop" ⟨[.ref S, .ref z, res], []⟩) R s := by
  have e1 := r1.length
  have e2 := r2.length
  intro m
  induction m with
  | zero =>
    intro i G outs s him hG hS I st hf ho
    refine codeAny_builtin F.entry_extend_loop ?_
    rw [Around.under_plainId F.plain_extend_loop _]
    show wpAny _ A.in1 (pyNext (.ref z) >>= _) _ _ s
    refine wpAny_bind (zs_stop (A := A.in1) hh D st (by simp; omega) (by simp; omega) fun h' k => wpAny_pure (hend G outs _ ?_ hS ?_))
    · rw [List.take_of_length_le (by omega), List.take_of_length_le (by omega)] at hG
      exact hG
    · exact I.turnedL (t' := s.toks) (ch := [z, TI, TO, i1, i2]) (fun b o hb e => k b o (fun q => hb (by simp [q])) (fun q => hb (by simp [q])) (fun q => hb (by simp [q])) (fun q => hb (by simp [q])) e) hf
  | succ m ih =>
    intro i G outs s him hG hS I st hf ho
    have hi1 : i < us1.length := by omega
    have hi2 : i < us2.length := by omega
    have hix : i < xs.length := by omega
    have hiy : i < ys.length := by omega
    obtain ⟨u1, hu1, ru1⟩ := r1.get (List.getElem?_eq_getElem hix)
    obtain ⟨u2, hu2, ru2⟩ := r2.get (List.getElem?_eq_getElem hiy)
    obtain ⟨zl, its, cap, rv, hlen, eS⟩ := I.lstM upd_same
    have hSlt : S < s.heap.objs.size := Heap.lt_size eS
    have ltz : ∀ c ∈ [z, TI, TO, i1, i2], c < s.heap.objs.size := by
      obtain ⟨⟨f0, b, q1, _⟩, q2, ⟨_, _, q3⟩, ⟨o4, q4, _⟩, ⟨o5, q5, _⟩, _, _⟩ := st
      intro c hc
      have hc' : c = z ∨ c = TI ∨ c = TO ∨ c = i1 ∨ c = i2 := by simpa using hc
      rcases hc' with rfl | rfl | rfl | rfl | rfl
      · exact Heap.lt_size q1
      · exact Heap.lt_size q2
      · exact Heap.lt_size q3
      · exact Heap.lt_size q4
      · exact Heap.lt_size q5
    refine codeAny_builtin F.entry_extend_loop ?_
    rw [Around.under_plainId F.plain_extend_loop _]
    show wpAny _ A.in1 (pyNext (.ref z) >>= _) _ _ s
    refine wpAny_bind (zs_step (A := A.in1) D st hSlt (x := u1) (y := u2) (by simpa using hu1) (by simpa using hu2) fun h' st' hp k => ?_)
    show wpAny _ A.in1 (updateSeq S (·.push (Value.ref s.heap.objs.size)) >>= _) _ _ _
    refine wpAny_bind ?_
    have nTS : s.heap.objs.size ≠ S := Nat.ne_of_gt hSlt
    have kk : ∀ b o, b ∉ [z, TI, TO, i1, i2] → s.heap.get? b = some o → h'.get? b = some o := fun b o hb e => k b o (fun q => hb (by simp [q])) (fun q => hb (by simp [q])) (fun q => hb (by simp [q])) (fun q => hb (by simp [q])) e
    have new : ObjOk X.prog X.w (upd (upd G S (.lst outs)) s.heap.objs.size (.tup [xs[i], ys[i]])) h' s.heap.objs.size (.tup [xs[i], ys[i]]) :=
      ⟨by show 2 ≤ sizeLine; decide, [u1, u2], .cons ru1 (.cons ru2 .nil), ⟨_, hp, rfl, _, rfl⟩⟩
    have I1 : Inv X pins σ (upd (upd G S (.lst outs)) s.heap.objs.size (.tup [xs[i], ys[i]])) { s with heap := h' } := I.turnedNew (t' := s.toks) kk hf (Nat.le_refl _) new
    have hH : (upd (upd G S (.lst outs)) s.heap.objs.size (.tup [xs[i], ys[i]])) S = some (.lst outs) := by rw [upd_ne nTS.symm, upd_same]
    obtain ⟨zl', its', cap', rv', hlen', eS'⟩ := I1.lstM hH
    have hsz : its'.length < sizeLine := by omega
    refine wpAny_updateSeq eS' rfl (wpAny_pure ⟨plainId_quiet F.plain_extend_loop _, ?_⟩) (by rw [List.size_toArray]; omega) (by show (its'.toArray.push _).size ≤ sizeLine + 1; rw [Array.size_push, List.size_toArray]; omega)
    have I2 := I1.lset (t' := s.toks) (its' := its' ++ [.ref s.heap.objs.size]) (ys := outs ++ [.ref s.heap.objs.size]) (f := (·.push (Value.ref s.heap.objs.size))) hH eS' (by simp) (rv'.append (.cons (show RelV (V.ref s.heap.objs.size) (Value.ref s.heap.objs.size) from rfl) .nil)) (by rw [List.length_append, List.length_singleton]; omega)
    rw [upd3 nTS] at I2
    have hGT : G s.heap.objs.size = none := by
      have q : (upd G S (.lst outs)) s.heap.objs.size = none := I.hok.fresh (Nat.le_refl _)
      rw [upd_ne nTS] at q
      exact q
    refine ih (i + 1) (upd G s.heap.objs.size (.tup [xs[i], ys[i]])) (outs ++ [.ref s.heap.objs.size]) _ (by omega) ?_ ?_ I2 ?_ ?_ ?_
    · have a1 : xs.take (i + 1) = xs.take i ++ [xs[i]] := by rw [List.take_succ_eq_append_getElem hix]
      have a2 : ys.take (i + 1) = ys.take i ++ [ys[i]] := by rw [List.take_succ_eq_append_getElem hiy]
      rw [a1, a2]
      exact .snoc hG hGT
    · rw [upd_ne nTS.symm]; exact hS
    · exact st'.keeps (fun c o hc e => (Heap.get?_update_other _ _ (Ne.symm hc)).trans e) n1 n2 n3 n4 n5 n6 n7
    · intro c hc
      have f := hf c hc
      have hcS : c ≠ S := by
        have hc' : c = z ∨ c = TI ∨ c = TO ∨ c = i1 ∨ c = i2 := by simpa using hc
        rcases hc' with rfl | rfl | rfl | rfl | rfl <;> assumption
      refine ⟨?_, f.2⟩
      rw [upd_ne hcS, upd_ne (Nat.ne_of_lt (ltz c hc))]
      have q := f.1
      rw [upd_ne hcS] at q
      exact q
    · rw [List.length_append, List.length_singleton, ho]
end L2.DL
namespace L2.DL
open PySem PySem.Spec PyProof.Rows
variable [Tbs]
theorem zip_len0 : typeLookup (.type "zip") "__len__" = pure none := by rw [typeLookup_type, builtinLookup_eq_fast]; kernel_rfl
theorem zip_hint0 : typeLookup (.type "zip") "__length_hint__" = pure none := by rw [typeLookup_type, builtinLookup_eq_fast]; kernel_rfl
theorem zs_iter {prog : Program} {w : World} {A : Around} {E : Value → Shared → Prop} {s : Shared} {z TI TO : Addr} {f0 : Value} {b : Bool} {Q : Value → Shared → Prop} (hz : IsZs s.heap z TI TO f0 b) (h : Q (.ref z) s) : wpAny (model prog w) A (pyIter (.ref z)) Q E s := by
  have hT : s.TypeIs (.ref z) "zip" := ⟨_, hz, rfl⟩
  refine wpAny_pyIter_slot hT F.slot_zip_iter (wpAny_call_entry F.slot_zip_iter hT F.entry_zip_iter ?_ (F.args_zip_iter_1 _))
  show wpAny _ _ (ret (.ref z)) _ _ s
  exact wpAny_pure ⟨_, rfl, "zip", _, hT, F.slot_zip_next.lookup, h⟩
/-- list(z) of a zip that has not begun -/
theorem list_zs {X : Cx} {pins : List (Addr × Obj)} {σ : St} {A : Around} {z TI TO i1 i2 l1 l2 : Addr} {H : Hp} {s : Shared} {xs ys : List V} {us1 us2 : List Value} {Q : Value → Shared → Prop} {E : Value → Shared → Prop} (hh : A.handled = none) (D : ZipApart z TI TO i1 i2 l1 l2)
    (r1 : Vals xs us1) (r2 : Vals ys us2) (hl : xs.length = ys.length) (hz : xs.length ≤ sizeLine) (I : Inv X pins σ H s) (hzz : IsZs s.heap z TI TO .none false) (hTI : IsPair s.heap TI (.ref i1) (.ref i2)) (hTO : IsPair s.heap TO .none .none)
    (t1 : s.heap.IsTupleIter i1 l1 0) (t2 : s.heap.IsTupleIter i2 l2 0) (g1 : s.heap.IsTuple l1 us1.toArray) (g2 : s.heap.IsTuple l2 us2.toArray) (hf : ∀ c ∈ [z, TI, TO, i1, i2], FpOk X pins H c)
    (hend : ∀ G outs S s', H S = none → ZipG H xs ys outs G → G S = none → Inv X pins σ (upd G S (.lst outs)) s' → Q (.ref S) s') :
    wpAny (model X.prog X.w) A (call (.type "list") [.ref z]) Q E s := by
  have lt : ∀ {c o}, s.heap.get? c = some o → c ≠ s.heap.objs.size := fun e => Nat.ne_of_lt (Heap.lt_size e)
  have n4 : i1 ≠ s.heap.objs.size := by obtain ⟨_, e, _⟩ := t1; exact lt e
  have n5 : i2 ≠ s.heap.objs.size := by obtain ⟨_, e, _⟩ := t2; exact lt e
  have n6 : l1 ≠ s.heap.objs.size := by obtain ⟨_, e, _⟩ := id g1; exact lt e
  have n7 : l2 ≠ s.heap.objs.size := by obtain ⟨_, e, _⟩ := id g2; exact lt e
  refine callType_codes (Q₁ := fun obj s₁ => obj = .ref s.heap.objs.size ∧ s₁ = { s with heap := s.heap.push { cls := .type "list", data := .seq #[] } }) F.called_list (F.typeCall_list_1 _) F.entry_list_init
    (code_list_new _ ⟨rfl, rfl⟩) fun obj s₁ h₁ => ?_
  obtain ⟨rfl, rfl⟩ := h₁
  have hS : (s.heap.push { cls := .type "list", data := .seq #[] }).get? s.heap.objs.size = some { cls := .type "list", data := .seq #[] } := Heap.get?_push_size _ rfl
  refine ⟨⟨_, hS, rfl⟩, F.args_list_init_2 _ _, ?_⟩
  show wpAny _ A.in1.in1 (do let old ← Builtin.List.listItems (.ref s.heap.objs.size); Builtin.List.listUpdate (.ref s.heap.objs.size) (fun _ => #[]); letGo old.toList.reverse; Builtin.List.listExtendWith (.ref s.heap.objs.size) (.ref z) .none) _ _ _
  refine wpAny_bind ?_
  unfold Builtin.List.listItems
  refine wpAny_bind (wpAny_seqItems hS rfl (wpAny_pure ?_))
  show wpAny _ A.in1.in1 (updateSeq s.heap.objs.size (fun _ => #[]) >>= fun _ => letGo (#[] : Array Value).toList.reverse >>= fun _ => Builtin.List.listExtendWith (.ref s.heap.objs.size) (.ref z) .none) _ _ _
  refine wpAny_bind (wpAny_updateSeq hS rfl ?_)
  have hS2 := Heap.get?_update_self (Obj.mapSeq (fun _ => (#[] : Array Value))) hS rfl
  refine wpAny_bind (wpAny_letGo ?_)
  unfold Builtin.List.listExtendWith
  have up : ∀ (h : Heap) (f : Obj → Obj), (∀ b o, s.heap.get? b = some o → h.get? b = some o) → ∀ b o, s.heap.get? b = some o → (h.update s.heap.objs.size f).get? b = some o := fun h f q b o e =>
    (Heap.get?_update_other _ _ (Ne.symm (lt e))).trans (q b o e)
  have k1 : ∀ b o, s.heap.get? b = some o → (s.heap.push { cls := .type "list", data := .seq #[] }).get? b = some o := fun b o e => Heap.get?_push_of_some _ e
  have k2 := up _ (Obj.mapSeq (fun _ => (#[] : Array Value))) k1
  have zty : ∀ {h : Heap}, (∀ b o, s.heap.get? b = some o → h.get? b = some o) → ({ s with heap := h } : Shared).TypeIs (.ref z) "zip" := fun {h} q => ⟨_, q z _ hzz, rfl⟩
  refine wpAny_bind (wpAny_typeOf (zty k2) ?_)
  have c1 : Builtin.List.listSameRef (.ref s.heap.objs.size) (.ref z) = false := by simp [Builtin.List.listSameRef, (lt hzz).symm]
  have c2 : (Value.type "zip" == Value.type "list") = false := by decide
  have c3 : (Value.type "zip" == Value.type "tuple") = false := by decide
  simp only [c1, c2, c3, Bool.or_false, Bool.false_eq_true, if_false]
  refine wpAny_bind (zs_iter (s := { s with heap := _ }) (k2 z _ hzz) ?_)
  refine wpAny_bind (wpAny_holding ?_)
  unfold Builtin.List.listLengthHint
  refine wpAny_bind (wpAny_specialOf (zty k2) zip_len0 ?_)
  show wpAny _ A.in1.in1 (specialOf (Value.ref z) (Str.ofString "__length_hint__") >>= _) _ _ _
  refine wpAny_bind (wpAny_specialOf (zty k2) zip_hint0 ?_)
  refine wpAny_pure ?_
  show wpAny _ A.in1.in1 (rule "list.extend.makes-room" >>= fun _ => Builtin.List.listTouch (.ref s.heap.objs.size) >>= fun _ =>
    again (.builtin "list.extend.loop" ⟨[.ref s.heap.objs.size, .ref z, .none], []⟩)) _ _ _
  refine wpAny_bind (wpAny_rule ?_)
  refine wpAny_bind ?_
  show wpAny _ A.in1.in1 (updateSeq s.heap.objs.size (·.push .none) >>= fun _ => updateSeq s.heap.objs.size (·.pop)) _ _ _
  refine wpAny_bind (wpAny_updateSeq hS2 rfl ?_)
  have hS3 := Heap.get?_update_self (Obj.mapSeq (·.push Value.none)) hS2 rfl
  refine wpAny_updateSeq (hz := by seq_fits) hS3 rfl ?_
  have hS4 := Heap.get?_update_self (Obj.mapSeq (·.pop)) hS3 rfl
  have k4 := up _ (Obj.mapSeq (·.pop)) (up _ (Obj.mapSeq (·.push Value.none)) k2)
  refine wpAny_pure ⟨plainId_quiet F.plain_extend_loop _, ?_⟩
  have hHS : H s.heap.objs.size = none := I.hok.fresh (Nat.le_refl _)
  have I2 := I.laid (t' := s.toks) (a := s.heap.objs.size) (o := .lst []) k4 (Nat.le_refl _) ⟨Nat.zero_le _, [], _, .nil, hS4⟩
  refine drainZ (X := X) (pins := pins) (σ := σ) (A := A.in1) (H0 := H) hh D r1 r2 hl hz (lt hzz) (lt hTI) (lt hTO) n4 n5 n6 n7 (fun G outs s' a1 a2 a3 => ⟨rfl, hend G outs _ s' hHS a1 a2 a3⟩) xs.length 0 H [] _ (Nat.zero_add _) ?_ hHS I2 ?_ (fun c hc => ?_) rfl
  · rw [List.take_zero, List.take_zero]
    exact .nil
  · exact ⟨⟨_, _, k4 _ _ hzz, .inl rfl⟩, k4 _ _ hTI, ⟨_, _, k4 _ _ hTO⟩, t1.at fun o e => k4 _ o e, t2.at fun o e => k4 _ o e, g1.at fun o e => k4 _ o e, g2.at fun o e => k4 _ o e⟩
  · have f := hf c hc
    refine ⟨?_, f.2⟩
    have hcS : c ≠ s.heap.objs.size := by
      have hc' : c = z ∨ c = TI ∨ c = TO ∨ c = i1 ∨ c = i2 := by simpa using hc
      rcases hc' with rfl | rfl | rfl | rfl | rfl
      · exact lt hzz
      · exact lt hTI
      · exact lt hTO
      · exact n4
      · exact n5
    rw [upd_ne hcS]
    exact f.1
theorem callWith_tk {M : Model} {A : Around} {E : Value → Shared → Prop} {s : Shared} {env : Env} {pos : Pos} {T : String} {e : Expr} {rest : List Expr} {kws : List Keyword} {Q : Value → Shared → Prop}
    (h : wpAny M A (spliced (backTo pos (starEach (e :: rest) env))) (fun vs s₁ => wpAny M A (evalAll ((backToKw pos (keywordEach kws env)).map (·.2)))
      (fun kvs s₂ => wpAny M A (call (.type T) vs (((backToKw pos (keywordEach kws env)).filterMap (·.1)).zip kvs)) Q E s₂) E s₁) E s)
    (he : backTo pos (starEach (e :: rest) env) = (false, eval e env) :: backTo pos (starEach rest env) := by rfl)
    (hplain : (backTo pos (starEach (e :: rest) env)).any (·.1) = false := by rfl)
    (hall : (backToKw pos (keywordEach kws env)).all (·.1.isSome) = true := by rfl)
    (hkw : (backToKw pos (keywordEach kws env)).any (·.1.isNone) = false := by rfl) :
    wpAny M A (callWith pos (.type T) [] (backTo pos (starEach (e :: rest) env)) (backToKw pos (keywordEach kws env))) Q E s := by
  have hev : wpAny M A (evalArgs (.type T) true (backTo pos (starEach (e :: rest) env)) (backToKw pos (keywordEach kws env))) (fun a s₁ => wpAny M A (call (.type T) ([] ++ a.pos) a.kw) Q E s₁) E s := by
    rw [he] at h ⊢
    exact evalArgs_kwB hall h
  unfold callWith
  refine wpAny_bind (wpAny_holding (wpAny_mono hev (fun a s₁ h₁ => wpAny_bind (wpAny_standAt ?_)) fun _ _ x => x))
  simp only [hplain, hkw, Bool.or_false]
  refine wpAny_bind (wpAny_pure ?_)
  exact wpAny_bind (wpAny_mono h₁ (fun r s₂ hr => wpAny_bind (wpAny_holding (wpAny_point (wpAny_pure hr)))) fun _ _ x => x)
def tLZ (K : PySem.W.Frag) (ta : TA) : TE := fun σ H Q => ta σ H fun vs H1 => ∃ a b xs ys, vs = [.ref a, .ref b] ∧ SqT K H1 a xs ∧ SqT K H1 b ys ∧ xs.length = ys.length ∧ ∀ G outs S, H1 S = none → ZipG H1 xs ys outs G → G S = none → Q (.ref S) (upd G S (.lst outs))
theorem pe_listZs {X : Cx} {e e2 : Expr} {ta : TA} {p p2 kp pos zpos : Pos} {j : Nat} {vp : Pos} (hc : X.calm = true) (hml : X.mg "list" = none) (hmz : X.mg "zip" = none) (ha : PA X [e, e2] ta) (hgl : Gl X "list" := by rfl) (hgz : Gl X "zip" := by rfl)
    (he0 : starEach [.Call (.Name "zip" p2) [e, e2] [⟨some "strict", .Constant (.bool true) j vp, kp⟩] zpos] X.env = (false, eval (.Call (.Name "zip" p2) [e, e2] [⟨some "strict", .Constant (.bool true) j vp, kp⟩] zpos) X.env) :: starEach [] X.env := by rfl)
    (he : backTo zpos (starEach [e, e2] X.env) = (false, eval e X.env) :: backTo zpos (starEach [e2] X.env) := by rfl)
    (hpl : (backTo zpos (starEach [e, e2] X.env)).any (·.1) = false := by rfl) :
    PE X (.Call (.Name "list" p) [.Call (.Name "zip" p2) [e, e2] [⟨some "strict", .Constant (.bool true) j vp, kp⟩] zpos] [] pos) (tLZ X.K ta) := by
  refine ⟨fun pins s σ H Q I hq => ?_⟩
  refine wpAny_Call_Name_kw (ld_blt I hgl hml (show bootBuiltins "list" = some (.type "list") by decide +kernel) ?_)
  refine PyProof.Rows.callWith_type1 ?_ he0 rfl
  rw [he0]
  show wpAny _ _ (spliced ((false, eval _ X.env) :: backTo pos (starEach [] X.env))) _ _ s
  refine Calls.spliced_cons ?_
  refine wpAny_Call_Name_kw (ld_blt I hgz hmz PyProof.Rows.boot_zip ?_)
  refine callWith_tk (thn (ha.run zpos pins s σ H _ I hq) fun us s1 ⟨vs, H1, I1, rv, q1⟩ => ?_) he hpl
  obtain ⟨a, b, xs, ys, rfl, sx, sy, hl, q1⟩ := q1
  refine thn ((pk_cons (pe_bl (b := true)) pk_nil).run zpos pins s1 σ H1 (fun vs H2 => vs = [.bl true] ∧ H2 = H1) I1 ⟨rfl, rfl⟩) fun ws s2 ⟨zs, H2, I2, rz, e1, e2⟩ => ?_
  subst e1 e2
  cases rv with
  | cons ra rr =>
    cases rr with
    | cons rb rr =>
      cases rr
      cases ra
      cases rb
      cases rz with
      | cons rk rr =>
        cases rr
        cases rk
        obtain ⟨its, rx, p1, hzx⟩ := I2.tuple sx
        obtain ⟨its2, ry, p2', _⟩ := I2.tuple sy
        have g1 : s2.heap.IsTuple a its.toArray := p1
        have g2 : s2.heap.IsTuple b its2.toArray := p2'
        refine call_zs g1 g2 fun h' z1 z2 z3 z4 z5 hsz hk => ?_
        refine Calls.spliced_nil ?_
        have fresh5 : ∀ c, c ∈ [s2.heap.objs.size + 4, s2.heap.objs.size + 2, s2.heap.objs.size + 3, s2.heap.objs.size, s2.heap.objs.size + 1] → FpOk X pins H2 c := fun c hcm => by
          have e' : c = s2.heap.objs.size + 4 ∨ c = s2.heap.objs.size + 2 ∨ c = s2.heap.objs.size + 3 ∨ c = s2.heap.objs.size ∨ c = s2.heap.objs.size + 1 := by simpa using hcm
          have hle : s2.heap.objs.size ≤ c := by
            rcases e' with rfl | rfl | rfl | rfl | rfl
            · exact Nat.le_add_right _ _
            · exact Nat.le_add_right _ _
            · exact Nat.le_add_right _ _
            · exact Nat.le_refl _
            · exact Nat.le_add_right _ _
          exact I2.fpOk hle (I2.hok.fresh hle)
        have I3 : Inv X pins σ H2 { s2 with heap := h' } := I2.kept (t' := s2.toks) hk
        obtain ⟨o1, ho1, _⟩ := id g1
        obtain ⟨o2, ho2, _⟩ := id g2
        refine list_zs (I2.ok.hd hc) (PySem.W.ktu_apart s2.heap.objs.size a b (Heap.lt_size ho1) (Heap.lt_size ho2)) rx ry hl hzx I3 z1 z2 z3 z4 z5 (g1.at fun o q => hk _ o q) (g2.at fun o q => hk _ o q) fresh5 fun G outs S s' a0 a1 a2 a3 => ?_
        exact ⟨.ref S, _, a3, rfl, q1 G outs S a0 a1 a2⟩
end L2.DL
/-! list(zip(a, b, strict=True)), as data -/
namespace L2.DL
open PySem PySem.Spec PyProof.Rows
variable [Tbs]
section
variable {K : ZK} {H G : Hp} {M : MS}
theorem relA_snoc : ∀ {vs : List V} {v : V} {ds : List D}, RelA K H M (vs ++ [v]) ds → ∃ ds' d, ds = ds' ++ [d] ∧ RelA K H M vs ds' ∧ Rel K H M v d
  | [], v, ds, h => by
    cases h with
    | cons a b =>
      cases b
      exact ⟨[], _, rfl, .nil, a⟩
  | u :: vs, v, ds, h => by
    cases h with
    | cons a b =>
      obtain ⟨ds', d, rfl, r1, r2⟩ := relA_snoc b
      exact ⟨_ :: ds', d, rfl, .cons a r1, r2⟩
theorem zipG_len {xs ys outs : List V} (g : ZipG H xs ys outs G) : xs.length = ys.length ∧ outs.length = xs.length := by
  induction g with
  | nil => exact ⟨rfl, rfl⟩
  | snoc g hT ih =>
    simp only [List.length_append, List.length_singleton]
    omega
theorem zipG_rel {xs ys outs : List V} (g : ZipG H xs ys outs G) (m : RelM K H M) : ∀ {ds es : List D}, RelA K H M xs ds → RelA K H M ys es → RelM K G M ∧ Ext K H M G M ∧ RelA K G M outs (zipD ds es) := by
  induction g with
  | nil =>
    intro ds es ra rb
    cases ra
    cases rb
    exact ⟨m, Ext.refl, .nil⟩
  | @snoc xs ys outs G x y T g hT ih =>
    intro ds es ra rb
    obtain ⟨ds, d, rfl, ra1, rd⟩ := relA_snoc ra
    obtain ⟨es, e, rfl, rb1, re⟩ := relA_snoc rb
    obtain ⟨m1, e1, r1⟩ := ih ra1 rb1
    have e2 := ext_new (o := .tup [x, y]) m1 hT
    refine ⟨relM_new m1 hT, e1.trans e2, ?_⟩
    have hl : ds.length = es.length := by rw [← ra1.length, ← rb1.length]; exact (zipG_len g).1
    have hz : zipD (ds ++ [d]) (es ++ [e]) = zipD ds es ++ [.tup [d, e]] := by
      unfold zipD
      rw [List.zipWith_append hl]
      rfl
    rw [hz]
    exact (e2.all r1).append (.cons (rel_pair hT m1 (e1 _ _ rd) (e1 _ _ re)) .nil)
end
def zsR : List D → PD → MS → Prop
  | [.tup xs, .tup ys], R, M => xs.length = ys.length ∧ R (.lst (zipD xs ys)) M
  | _, _, _ => False
def dLZ (t : DTA) : DTE := fun ρ R E M => t ρ (fun ds M1 => zsR ds R M1) E M
theorem de_listZs {X : Cx} {W : WX} {e e2 : Expr} {t : DTA} {p p2 kp pos zpos : Pos} {j : Nat} {vp : Pos} (hc : X.calm = true) (hml : X.mg "list" = none) (hmz : X.mg "zip" = none) (ha : DA X W [e, e2] t) (hgl : Gl X "list" := by rfl) (hgz : Gl X "zip" := by rfl)
    (he0 : starEach [.Call (.Name "zip" p2) [e, e2] [⟨some "strict", .Constant (.bool true) j vp, kp⟩] zpos] X.env = (false, eval (.Call (.Name "zip" p2) [e, e2] [⟨some "strict", .Constant (.bool true) j vp, kp⟩] zpos) X.env) :: starEach [] X.env := by rfl)
    (he : backTo zpos (starEach [e, e2] X.env) = (false, eval e X.env) :: backTo zpos (starEach [e2] X.env) := by rfl)
    (hpl : (backTo zpos (starEach [e, e2] X.env)).any (·.1) = false := by rfl) :
    DE X W (.Call (.Name "list" p) [.Call (.Name "zip" p2) [e, e2] [⟨some "strict", .Constant (.bool true) j vp, kp⟩] zpos] [] pos) (dLZ t) :=
  imp (pe_listZs hc hml hmz ha hgl hgz he0 he hpl) fun σ H Q ⟨z, ρ, M, R, E, hs, hm, h, hc, hE⟩ =>
    ⟨z, ρ, M, _, E, hs, hm, h, fun ds M1 vs H1 h1 m1 r1 e1 => by
      unfold zsR at h1
      split at h1
      · cases r1 with
        | cons x y =>
          cases y with
          | cons y y2 =>
            cases y2
            cases x with
            | tup s ra =>
              cases y with
              | tup s2 ra2 =>
                refine ⟨_, _, _, _, rfl, s, s2, by rw [ra.length, ra2.length]; exact h1.1, fun G outs S hS0 hG hS => ?_⟩
                obtain ⟨m2, e2, r2⟩ := zipG_rel hG m1 ra ra2
                exact hc _ _ _ _ h1.2 (relM_new m2 hS) (.lst (fz_new m2 hS) ((ext_new m2 hS).all r2)) (e1.trans (e2.trans (ext_new m2 hS)))
      · exact h1.elim, hE⟩
section
variable {ρ : Sl} {R : PD} {E : XP} {M : MS} {t : DTA} {xs ys : List D}
theorem v_lz : dLZ t ρ R E M = t ρ (fun ds M1 => zsR ds R M1) E M := (rfl)
theorem q_zs : zsR [.tup xs, .tup ys] R M = (xs.length = ys.length ∧ R (.lst (zipD xs ys)) M) := (rfl)
end
end L2.DL
/-! DLs: t[::-1]; sums of lists into a list of the store; sums of more; str, f-strings -/
namespace L2.DL
open PySem PySem.Spec PyProof.Rows
variable [Tbs]
section
variable {prog : Program} {w : World} {A : Around} {E : Value → Shared → Prop} {s : Shared}
theorem rev_places (n : Nat) : Builtin.Slice.slicePlaces ((n : Int) - 1) (-1) (-1) = n := by
  unfold Builtin.Slice.slicePlaces
  have h1 : ¬ ((-1 : Int) > 0) := by omega
  simp only [h1, if_false]
  split
  · rw [show (- -1 : Int) = 1 by decide, Int.ediv_one]; omega
  · omega
theorem rev_pick (xs : Array Value) : ((List.range xs.size).filterMap fun (m : Nat) => xs[(((xs.size : Int) - 1) + (m : Int) * (-1)).toNat]?).toArray = xs.toList.reverse.toArray := by
  have e : ((List.range xs.size).filterMap fun (m : Nat) => xs[(((xs.size : Int) - 1) + (m : Int) * (-1)).toNat]?) = ((List.range xs.size).map fun k => xs.size - 1 - k).filterMap (xs[·]?) := by
    rw [List.filterMap_map]
    have key : ∀ l : List Nat, (∀ m, m ∈ l → m < xs.size) → (l.filterMap fun (m : Nat) => xs[(((xs.size : Int) - 1) + (m : Int) * (-1)).toNat]?) = l.filterMap ((fun k => xs[k]?) ∘ fun k => xs.size - 1 - k) := by
      intro l hl
      induction l with
      | nil => rfl
      | cons m l ih =>
        have hm := hl m List.mem_cons_self
        have q : ((((xs.size : Int) - 1) + (m : Int) * (-1)).toNat) = xs.size - 1 - m := by omega
        rw [List.filterMap_cons, List.filterMap_cons, ih fun k hk => hl k (List.mem_cons_of_mem _ hk), q]
        rfl
    exact key _ fun m hm => List.mem_range.mp hm
  rw [e, PySem.W.krv_range, List.filterMap_reverse, PySem.W.krv_all]
theorem getItem_rev {t sl : Addr} {items : Array Value} {vl vu vk : Value} {Q : Value → Shared → Prop} (ht : IsTup s.heap t items) (hs : s.heap.IsSliceOf sl vl vu vk) (pl : IsPart vl none) (pu : IsPart vu none) (pk : IsPart vk (some (-1)))
    (h : Q (.ref s.heap.objs.size) { s with heap := s.heap.push { cls := .type "tuple", data := .seq items.toList.reverse.toArray } })
    (hsz : items.size ≤ sizeLine) : wpAny (model prog w) A (getItem (.ref t) (.ref sl)) Q E s := by
  have hok : sizeOk (.seq items.toList.reverse.toArray) := by
    show items.toList.reverse.toArray.size ≤ sizeLine
    rw [List.size_toArray, List.length_reverse, Array.length_toList]
    exact hsz
  obtain ⟨os, hos, hcs, hds⟩ := id hs
  have hTs : s.TypeIs (.ref sl) "slice" := ⟨os, hos, hcs⟩
  have sa : ∀ {Q : Int × Int × Nat → Shared → Prop}, Q ((items.size : Int) - 1, -1, items.size) s → wpAny (model prog w) A.in1 (Builtin.Slice.sliceApplied (.ref sl) (pure (items.size : Int))) Q E s := fun {Q} h => by
    unfold Builtin.Slice.sliceApplied Builtin.Slice.sliceFields
    refine wpAny_bind (wpAny_bind (wpAny_field hos hds (x := vl) rfl (wpAny_bind (wpAny_field hos hds (x := vu) rfl (wpAny_bind (wpAny_field hos hds (x := vk) rfl (wpAny_pure ?_)))))))
    refine wpAny_bind (HT.slicePart_ pk ?_)
    show wpAny _ _ (if ((-1 : Int) == 0) = true then _ else _) _ _ s
    rw [if_neg (by decide)]
    refine wpAny_bind (HT.slicePart_ pl (wpAny_bind (HT.slicePart_ pu (wpAny_bind (wpAny_pure ?_)))))
    show wpAny _ _ (pure ((items.size : Int) - 1, (-1 : Int), Builtin.Slice.slicePlaces ((items.size : Int) - 1) (-1) (-1))) _ _ s
    rw [rev_places]
    exact wpAny_pure h
  unfold getItem
  try with_reducible refine wpAny_holding ?_
  first | refine wpAny_bind (wpAny_pure ?_) | skip
  refine wpAny_bind (wpAny_sequenceKey ht.typeIs (by decide) ?_)
  refine wpAny_bind (wpAny_callSpecial?_slot (name := Str.ofString "__getitem__") ht.typeIs PyProof.Rows.slot_tuple_getitem
    (wpAny_call_entry PyProof.Rows.slot_tuple_getitem ht.typeIs PyProof.Rows.entry_tuple_getitem ?_ (PyProof.Rows.args_tuple_getitem _ _)))
  show wpAny _ _ (Builtin.Tuple.tupleItemsOf (.ref t) >>= _) _ _ s
  refine wpAny_bind (PyProof.Rows.tupleItemsOf_ ht ?_)
  refine wpAny_bind (wpAny_typeOf hTs ?_)
  rw [if_pos (by decide)]
  refine wpAny_bind (sa ?_)
  show wpAny _ _ (if (((items.size : Int) - 1) == 0 && (-1 : Int) == 1 && items.size == items.size) = true then _ else _) _ _ s
  rw [if_neg (by intro q; rw [Bool.and_eq_true, Bool.and_eq_true] at q; exact absurd (eq_of_beq q.1.2) (by decide)), rev_pick]
  first
    | exact wpAny_bind (m := Builtin.Tuple.tupleExact _) (wpAny_newObj_type (wpAny_pure ⟨_, rfl, wpAny_pure h⟩) hok)
    | exact wpAny_bind (m := Builtin.Tuple.tupleExact _) (wpAny_newObj_type (wpAny_bind (wpAny_pure (wpAny_pure ⟨_, rfl, wpAny_pure h⟩))) hok)
    | exact wpAny_bind (wpAny_bind (m := Builtin.Tuple.tupleExact _) (wpAny_newObj_type (wpAny_pure (wpAny_pure ⟨_, rfl, wpAny_pure h⟩)) hok))
    | exact wpAny_bind (wpAny_bind (m := Builtin.Tuple.tupleExact _) (wpAny_newObj_type (wpAny_pure ⟨_, rfl, wpAny_pure h⟩) hok))
end
section
variable {X : Cx}
def tRevA (K : PySem.W.Frag) (te : TE) : TE := fun σ H Q => te σ H fun x H1 => ∃ a xs, x = .ref a ∧ ((SqT K H1 a xs ∧ ∀ p, H1 p = none → Q (.ref p) (upd H1 p (.tup xs.reverse))) ∨ (SqL K H1 a xs ∧ ∀ p, H1 p = none → Q (.ref p) (upd H1 p (.lst xs.reverse))))
theorem pe_revA {e : Expr} {te : TE} {k : Nat} {p1 p2 p3 pos : Pos} (he : PE X e te) : PE X (.Subscript e (.Slice none none (some (.UnaryOp .USub (.Constant (.int 1) k p1) p2)) p3) pos) (tRevA X.K te) := by
  refine ⟨fun pins s σ H Q I h => ?_⟩
  refine Subscript_ (thn (he.run pins s σ H _ I h) fun v s1 ⟨x, H1, I1, r1, a, xs, ex, hq⟩ => ?_)
  subst ex
  cases r1
  have hst : PO X (some (.UnaryOp .USub (.Constant (.int 1) k p1) p2)) (tPart (tUn (rU fun i => .int (-i)) (tC (.int 1)))) := po_some (pe_un un_neg pe_int)
  refine wpAny_Slice (thn (po_none.run pins s1 σ H1 (fun o z2 => o = none ∧ z2 = H1) I1 ⟨rfl, rfl⟩) fun vl s2 ⟨l, H2, I2, pl, el, e2⟩ => ?_)
  subst el e2
  refine thn (po_none.run pins s2 σ H2 (fun o z3 => o = none ∧ z3 = H2) I2 ⟨rfl, rfl⟩) fun vu s3 ⟨u, H3, I3, pu, eu, e3⟩ => ?_
  subst eu e3
  refine thn (hst.run pins s3 σ H3 (fun o z4 => o = some (-1) ∧ z4 = H3) I3 ⟨1, rfl, -1, rfl, rfl, rfl⟩) fun vs s4 ⟨o, H4, I4, ps, eo, e4⟩ => ?_
  subst eo e4
  have I5 : Inv X pins σ H4 { s4 with heap := s4.heap.push { cls := .type "slice", data := .fields #[vl, vu, vs] } } := I4.kept (t' := s4.toks) fun b ob q => Heap.get?_push_of_some _ q
  show wpAny (model X.prog X.w) X.A (subscriptTail e (.Slice none none (some (.UnaryOp .USub (.Constant (.int 1) k p1) p2)) p3) (.ref a) (.ref s4.heap.objs.size)) (EP X pins σ Q) X.xe { s4 with heap := s4.heap.push { cls := .type "slice", data := .fields #[vl, vu, vs] } }
  rcases hq with ⟨hx, q⟩ | ⟨hx, q⟩
  · obtain ⟨its, r, ht, hz⟩ := I5.tuple hx
    have hlen := r.length
    refine tail_any (ops := [.ref a, .ref s4.heap.objs.size]) ht.typeIs PyProof.Rows.slot_tuple_getitem.lookup ?_ (by with_unfolding_all rfl)
    refine getItem_rev ht (Heap.IsSliceOf.new _ vl vu vs) pl pu ps ?_ (by rw [List.size_toArray]; omega)
    refine ⟨.ref _, _, I5.laid (t' := s4.toks) (o := .tup xs.reverse) (fun b ob z => Heap.get?_push_of_some _ z) (Nat.le_refl _) ?_, rfl, q _ (I5.hok.fresh (Nat.le_refl _))⟩
    exact ⟨by rw [List.length_reverse]; exact hz, _, r.reverse, IsTup.new _ _⟩
  · obtain ⟨its, r, ht, hz⟩ := I5.list hx
    have hlen := r.length
    refine tail_any (ops := [.ref a, .ref s4.heap.objs.size]) ht.isList.typeIs (PySem.slot_list_getitem.lookup) ?_ (by with_unfolding_all rfl)
    refine wpAny_getItem_list_slice ht.isList (Heap.IsSliceOf.new _ vl vu vs) pl pu ps (by decide) ?_ (by rw [List.size_toArray]; omega)
    rw [PySem.W.krv_pick]
    refine ⟨.ref _, _, I5.laid (t' := s4.toks) (o := .lst xs.reverse) (fun b ob z => Heap.get?_push_of_some _ z) (Nat.le_refl _) ?_, rfl, q _ (I5.hok.fresh (Nat.le_refl _))⟩
    exact ⟨by rw [List.length_reverse]; exact hz, _, 0, r.reverse, Heap.get?_push_size _ rfl⟩
end
/-! as data -/
def revD : D → PD → MS → Prop
  | .tup ds, R, M => R (.tup ds.reverse) M
  | .lst ds, R, M => R (.lst ds.reverse) M
  | .ref a, R, M => ∃ ds, M a = some (.lst ds) ∧ R (.lst ds.reverse) M
  | _, _, _ => False
def dRev (te : DTE) : DTE := fun ρ R E M => te ρ (fun d M1 => revD d R M1) E M
theorem RelA.reverse {K : ZK} {H : Hp} {M : MS} : ∀ {vs : List V} {ds : List D}, RelA K H M vs ds → RelA K H M vs.reverse ds.reverse
  | _, _, .nil => .nil
  | _, _, .cons a b => by
    rw [List.reverse_cons, List.reverse_cons]
    exact (RelA.reverse b).append (.cons a .nil)
theorem de_rev {X : Cx} {W : WX} {e : Expr} {te : DTE} {k : Nat} {p1 p2 p3 pos : Pos} (he : DE X W e te) : DE X W (.Subscript e (.Slice none none (some (.UnaryOp .USub (.Constant (.int 1) k p1) p2)) p3) pos) (dRev te) :=
  imp (pe_revA he) fun σ H Q ⟨z, ρ, M, R, E, hs, hm, h, hc, hE⟩ =>
    ⟨z, ρ, M, _, E, hs, hm, h, fun d M1 v H1 h1 m1 r1 e1 => by
      have h1 : revD d R M1 := h1
      unfold revD at h1
      split at h1
      · cases r1 with
        | tup s ra => exact ⟨_, _, rfl, .inl ⟨s, fun p hp => hc _ _ _ _ h1 (relM_new m1 hp) (.tup (SqT.of upd_same) ((ext_new m1 hp).all ra.reverse)) (e1.trans (ext_new m1 hp))⟩⟩
      · cases r1 with
        | lst s ra => exact ⟨_, _, rfl, .inr ⟨s.sq, fun p hp => hc _ _ _ _ h1 (relM_new m1 hp) (.lst (fz_new m1 hp) ((ext_new m1 hp).all ra.reverse)) (e1.trans (ext_new m1 hp))⟩⟩
      · cases r1
        obtain ⟨ds, ea, q⟩ := h1
        obtain ⟨vs, ee, ra⟩ := m1.at' _ _ ea
        exact ⟨_, _, rfl, .inr ⟨SqL.of ee, fun p hp => hc _ _ _ _ q (relM_new m1 hp) (.lst (fz_new m1 hp) ((ext_new m1 hp).all ra.reverse)) (e1.trans (ext_new m1 hp))⟩⟩
      · exact h1.elim, hE⟩
/-- a sum of lists that is a list of the store -/
def addND : D → D → PD → MS → Prop := fun x y R M => ∃ a b, Ls M x a ∧ Ls M y b ∧ a.length + b.length ≤ sizeLine ∧ ∀ p, M p = none → R (.ref p) (um M p (.lst (a ++ b)))
theorem o_addN {X : Cx} : OpD X (binaryOp .Add) addND := by
  refine ⟨_, op_cat, fun z H M x y vx vy R Q m rx ry h hc => ?_⟩
  obtain ⟨a, b, la, lb, hz, q⟩ := h
  obtain ⟨p1, vs, rfl, h1, r1⟩ := ls_at m la rx
  obtain ⟨p2, us, rfl, h2, r2⟩ := ls_at m lb ry
  exact ⟨p1, p2, vs, us, rfl, rfl, h1, h2, by rw [r1.length, r2.length]; exact hz, fun p hp =>
      hc _ _ _ _ (q p (m.free hp)) (alloc_lst m hp (r1.append r2)) (.ref p) (ext_alloc m hp)⟩
section
variable {ρ : Sl} {R : PD} {E : XP} {M : MS} {te : DTE} {xs ys : List D} {a b : Addr}
theorem v_rev : dRev te ρ R E M = te ρ (fun d M1 => revD d R M1) E M := (rfl)
theorem q_revT : revD (.tup xs) R M = R (.tup xs.reverse) M := (rfl)
theorem q_revL : revD (.lst xs) R M = R (.lst xs.reverse) M := (rfl)
theorem q_revR : revD (.ref a) R M = ∃ ds, M a = some (.lst ds) ∧ R (.lst ds.reverse) M := (rfl)
theorem q_addN : addND (.ref a) (.lst ys) R M = ∃ ds, M a = some (.lst ds) ∧ ds.length + ys.length ≤ sizeLine ∧ ∀ p, M p = none → R (.ref p) (um M p (.lst (ds ++ ys))) := by
  apply propext
  constructor
  · rintro ⟨ds, es, h1, h2, h3, h4⟩
    cases (show es = ys from h2)
    exact ⟨ds, h1, h3, h4⟩
  · rintro ⟨ds, h1, h3, h4⟩
    exact ⟨ds, ys, h1, rfl, h3, h4⟩
theorem q_addNL : addND (.lst xs) (.lst ys) R M = (xs.length + ys.length ≤ sizeLine ∧ ∀ p, M p = none → R (.ref p) (um M p (.lst (xs ++ ys)))) := by
  apply propext
  constructor
  · rintro ⟨ds, es, h1, h2, h3, h4⟩
    cases (show es = ys from h2)
    cases (show ds = xs from h1)
    exact ⟨h3, h4⟩
  · rintro ⟨h3, h4⟩
    exact ⟨xs, ys, rfl, rfl, h3, h4⟩
theorem q_addR : addD (.ref a) (.lst ys) R M = ∃ ds, M a = some (.lst ds) ∧ ds.length + ys.length ≤ sizeLine ∧ R (.lst (ds ++ ys)) M := by
  apply propext
  constructor
  · rintro ⟨ds, es, h1, h2, h3, h4⟩
    cases (show es = ys from h2)
    exact ⟨ds, h1, h3, h4⟩
  · rintro ⟨ds, h1, h3, h4⟩
    exact ⟨ds, ys, h1, rfl, h3, h4⟩
theorem q_slR {lo hi : Option Int} : slD (.ref a) lo hi R M = ∃ ds, M a = some (.lst ds) ∧ R (.lst (cut ds lo hi)) M := (rfl)
end
end L2.DL
/-! DLt: str, f-strings, ranges with a step, count of flat items, in flat tuples and lists -/
namespace L2.DL
open PySem PySem.Spec PyProof.Rows
variable [Tbs]
section
variable {X : Cx} {W : WX} {a b c e tg : Expr} {pos : Pos}
/-! str -/
def strD : List D → PD → MS → Prop
  | [.int i], R, M => i.natAbs.log2 < 1920 ∧ R (.str (Str.ofString (toString i))) M
  | [.str y], R, M => R (.str y) M
  | _, _, _ => False
theorem c_str : CallD X (.type "str") strD := by
  refine ⟨_, CallR.or call_str_int SkE.call_str_str, fun z H M xs vs R Q m ra h hc => ?_⟩
  unfold strD at h
  split at h
  · cases ra with
    | cons x y =>
      cases y; cases x
      exact .inl ⟨_, rfl, h.1, hc.here h.2 m (.str _)⟩
  · cases ra with
    | cons x y =>
      cases y; cases x
      exact .inr ⟨_, rfl, hc.here h m (.str _)⟩
  · exact h.elim
/-! f-strings -/
def fmtD : D → PD → MS → Prop
  | .str y, R, M => y.length ≤ sizeLine ∧ R (.str y) M
  | .int i, R, M => i.natAbs.log2 < 1920 ∧ R (.str (Str.ofString (toString i))) M
  | _, _, _ => False
def dFmt (te : DTE) : DTE := fun ρ R E M => te ρ (fun d M1 => fmtD d R M1) E M
theorem de_fmt {te : DTE} (he : DE X W e te) : DE X W (.FormattedValue e (-1) none pos) (dFmt te) :=
  imp (pe_fmt he) fun σ H Q ⟨z, ρ, M, R, E, hs, hm, h, hc, hE⟩ =>
    ⟨z, ρ, M, _, E, hs, hm, h, fun d M1 v H1 h1 m1 r1 e1 => by
      have h1 : fmtD d R M1 := h1
      have hc1 := hc.ext e1
      unfold fmtD at h1
      split at h1
      · cases r1
        exact .inl ⟨_, rfl, h1.1, hc1.here h1.2 m1 (.str _)⟩
      · cases r1
        exact .inr ⟨_, rfl, h1.1, hc1.here h1.2 m1 (.str _)⟩
      · exact h1.elim, hE⟩
def strW (k : Str → MS → Prop) : D → MS → Prop
  | .str y, M => k y M
  | _, _ => False
/-- the parts from the left -/
def jsW : List DTE → Str → Sl → (Str → MS → Prop) → XP → MS → Prop
  | [], acc, _, R, _, M => R acc M
  | t :: ts, acc, ρ, R, E, M => t ρ (fun d M1 => strW (fun y M2 => (acc ++ y).length ≤ sizeLine ∧ jsW ts (acc ++ y) ρ R E M2) d M1) E M
inductive DJ (X : Cx) (W : WX) : List Expr → List DTE → Prop
  | nil : DJ X W [] []
  | cons {e : Expr} {t : DTE} {es : List Expr} {ts : List DTE} (h : DE X W e t) (r : DJ X W es ts) : DJ X W (e :: es) (t :: ts)
theorem DJ.pj {es : List Expr} {ts : List DTE} (h : DJ X W es ts) : PJ X es (ts.map (lift X.K W)) := by
  induction h with
  | nil => exact .nil
  | cons h r ih => exact .cons h ih
theorem js_run {z : Hd} {σ : St} {ρ : Sl} {R : Str → MS → Prop} {E : XP} {Q : Str → Hp → Prop} : ∀ (ts : List DTE) (acc : Str) (H : Hp) (M : MS), RelS ⟨X.K, z⟩ H M σ ρ → RelM ⟨X.K, z⟩ H M → jsW ts acc ρ R E M →
    (∀ out M' H', R out M' → RelM ⟨X.K, z⟩ H' M' → Ext ⟨X.K, z⟩ H M H' M' → Q out H') → XOk ⟨X.K, z⟩ H M W E → tJs (ts.map (lift X.K W)) acc σ H Q
  | [], acc, H, M, hs, hm, h, hc, hE => hc acc M H h hm Ext.refl
  | t :: ts, acc, H, M, hs, hm, h, hc, hE => by
    refine ⟨z, ρ, M, _, E, hs, hm, h, fun d M1 v H1 h1 m1 r1 e1 => ?_, hE⟩
    have h1 : strW (fun y M2 => (acc ++ y).length ≤ sizeLine ∧ jsW ts (acc ++ y) ρ R E M2) d M1 := h1
    unfold strW at h1
    split at h1
    · cases r1
      exact ⟨_, rfl, h1.1, js_run ts _ H1 M1 (hs.ext e1) m1 h1.2 (fun out M' H' a b c => hc out M' H' a b (e1.trans c)) (hE.ext e1)⟩
    · exact h1.elim
def dJoin (ts : List DTE) : DTE := fun ρ R E M => jsW ts Str.empty ρ (fun out M1 => R (.str out) M1) E M
theorem de_join {v1 v2 : Expr} {rest : List Expr} {ts : List DTE} (h : DJ X W (v1 :: v2 :: rest) ts) : DE X W (.JoinedStr (v1 :: v2 :: rest) pos) (dJoin ts) :=
  imp (pe_joined h.pj) fun σ H Q ⟨z, ρ, M, R, E, hs, hm, h, hc, hE⟩ => js_run ts _ H M hs hm h (fun out M' H' a b c => hc _ _ _ _ a b (.str _) c) hE
/-! ranges with a step -/
def rngS (lo c : Int) (n : Nat) : List D := (List.range n).map fun (i : Nat) => D.int (lo + i * c)
theorem itOk_rngS {K : ZK} {H : Hp} {M : MS} {lo c : Int} {n : Nat} : ItOk K (Itc lo c n) (rngS lo c n) H M where
  go := fun K' i H' M' hk hi m e => by
    have h : i < n := by simpa [rngS] using hi
    exact h
  stop := fun K' H' M' hk m e => by
    show n ≤ (rngS lo c n).length
    simp [rngS]
  yld := fun K' i x H' M' H'' hk hi m e y => by
    obtain ⟨rfl, rfl⟩ := y
    have h : i < n := by simpa [rngS] using hi
    refine ⟨.int (lo + i * c), ?_, .int _, m, Ext.refl⟩
    unfold rngS
    rw [List.getElem?_map, List.getElem?_range h]
    rfl
def dRng3 (t : DTA) : DTI := fun ρ R E M => t ρ (fun ds M1 => match ds with
  | [.int i, .int j, .int c] => ∃ n, RgC i j c n ∧ R (rngS i c n) M1
  | _ => False) E M
theorem di_rng3 {t : DTA} {pp : Pos} (hm : X.mg "range" = none) (ha : DA X W [a, b, c] t) (hg : Gl X "range" := by rfl) (hs : starEach [a, b, c] X.env = (false, eval a X.env) :: starEach [b, c] X.env := by rfl) (hpl : (backTo pos (starEach [b, c] X.env)).any (·.1) = false := by rfl) :
    DI X W tg (.Call (.Name "range" pp) [a, b, c] [] pos) (dRng3 t) :=
  impI (pi_range3 hg hm ha hs hpl) fun σ H Q ⟨z, ρ, M, R, E, hs, hm, h, hc, hE⟩ =>
    ⟨z, ρ, M, _, E, hs, hm, h, fun ds M1 vs H1 h1 m1 r1 e1 => by
      split at h1
      · cases r1 with
        | cons x y =>
          cases y with
          | cons y y2 =>
            cases y2 with
            | cons y3 y4 =>
              cases x; cases y; cases y3; cases y4
              obtain ⟨n, hr, q⟩ := h1
              exact ⟨_, _, _, n, rfl, hr, hc _ _ _ _ q m1 e1 itOk_rngS⟩
      · exact h1.elim, hE⟩
/-! count -/
theorem cnt_eqU {x : V} : ∀ {xs : List V} {us : List Value}, Vals xs us → xs.all flatV = true → us.countP (eqU x) = xs.countP fun y => eqV y x
  | _, _, .nil, _ => rfl
  | y :: xs, u :: us, .cons r t, f => by
    rw [List.all_cons, Bool.and_eq_true] at f
    rw [List.countP_cons, List.countP_cons, eqU_of r f.1, cnt_eqU t f.2]
theorem mt_countV : MtR X "list.count" (fun x xs H Q => ∃ (p : Addr) (vs : List V) (y : V), x = .ref p ∧ xs = [y] ∧ SqL X.K H p vs ∧ flatV y = true ∧ vs.all flatV = true ∧ Q (.int (vs.countP fun z => eqV z y : Nat)) H) := by
  intro pins s σ H x xs v us Q I rx rxs h
  obtain ⟨p, vs, y, rfl, rfl, hs, fy, fs, q⟩ := h
  cases rx
  obtain ⟨u, rfl, ru⟩ := rxs.one
  obtain ⟨its, rv, ⟨⟨cls, dd, data, sl⟩, n, ho, hc, hdn, hd⟩, hlen⟩ := I.list hs
  simp only at hc hd
  subst hc hd
  refine call_meets PySem.F.slot_list_count ⟨_, ho, rfl⟩ PySem.F.entry_list_count (PySem.F.args_list_count_2 _ _)
    (SeqAt.list_countAt p its.toArray n dd sl u (eqU y)) ⟨ho, fun w hw => mem_eqAt ru fy rv fs w (by simpa using hw), ?_⟩
  refine ⟨.int (vs.countP fun z => eqV z y : Nat), H, I.tok _, ⟨s.toks, ?_⟩, q⟩
  rw [← cnt_eqU rv fs]
def cntD : D → List D → PD → MS → Prop
  | x, [.bl b], R, M => ∃ bs, lsBls M x bs ∧ R (.int (bs.count b : Nat)) M
  | x, [.int i], R, M => ∃ ns, lsInts M x ns ∧ R (.int (ns.count i : Nat)) M
  | _, _, _, _ => False
theorem m_count : MtD X "list.count" cntD := by
  refine ⟨_, mt_countV, fun z H M x xs v vs R Q m rx ra h hc => ?_⟩
  unfold cntD at h
  split at h
  · rename_i b
    obtain ⟨bs, hl, q⟩ := h
    obtain ⟨p, rfl, sq⟩ := lsBls_at m hl rx
    cases ra with
    | cons r1 r2 =>
      cases r2
      cases r1
      have e : (bs.map V.bl).countP (fun z => eqV z (.bl b)) = bs.count b := by
        rw [List.countP_map]
        rfl
      exact ⟨p, _, _, rfl, rfl, sq, rfl, by rw [List.all_map]; exact List.all_eq_true.mpr fun _ _ => rfl, by rw [e]; exact hc.here q m (.int _)⟩
  · rename_i i
    obtain ⟨ns, hl, q⟩ := h
    obtain ⟨p, rfl, sq⟩ := lsInts_at m hl rx
    cases ra with
    | cons r1 r2 =>
      cases r2
      cases r1
      have e : (ns.map V.int).countP (fun z => eqV z (.int i)) = ns.count i := by
        rw [List.countP_map]
        rfl
      exact ⟨p, _, _, rfl, rfl, sq, rfl, by rw [List.all_map]; exact List.all_eq_true.mpr fun _ _ => rfl, by rw [e]; exact hc.here q m (.int _)⟩
  · exact h.elim
end
section
variable {ρ : Sl} {R : PD} {E : XP} {M : MS} {te : DTE} {t : DTA} {i j : Int} {y : Str} {ts : List DTE} {acc : Str} {RS : Str → MS → Prop} {ds : List D} {x : D} {b : Bool}
theorem q_strI : strD [.int i] R M = (i.natAbs.log2 < 1920 ∧ R (.str (Str.ofString (toString i))) M) := (rfl)
theorem q_strS : strD [.str y] R M = R (.str y) M := (rfl)
theorem v_fmt : dFmt te ρ R E M = te ρ (fun d M1 => fmtD d R M1) E M := (rfl)
theorem q_fmtI : fmtD (.int i) R M = (i.natAbs.log2 < 1920 ∧ R (.str (Str.ofString (toString i))) M) := (rfl)
theorem q_fmtS : fmtD (.str y) R M = (y.length ≤ sizeLine ∧ R (.str y) M) := (rfl)
theorem v_join : dJoin ts ρ R E M = jsW ts Str.empty ρ (fun out M1 => R (.str out) M1) E M := (rfl)
theorem v_jsN : jsW [] acc ρ RS E M = RS acc M := (rfl)
theorem v_jsC : jsW (te :: ts) acc ρ RS E M = te ρ (fun d M1 => strW (fun y M2 => (acc ++ y).length ≤ sizeLine ∧ jsW ts (acc ++ y) ρ RS E M2) d M1) E M := (rfl)
theorem q_strW {k : Str → MS → Prop} : strW k (.str y) M = k y M := (rfl)
theorem v_rng3 {R : List D → MS → Prop} : dRng3 t ρ R E M = t ρ (fun ds M1 => match ds with
  | [.int i, .int j, .int c] => ∃ n, RgC i j c n ∧ R (rngS i c n) M1
  | _ => False) E M := (rfl)
theorem q_isLL : isL M (.lst ds) = True := (rfl)
theorem q_cntB : cntD x [.bl b] R M = ∃ bs, lsBls M x bs ∧ R (.int (bs.count b : Nat)) M := (rfl)
theorem q_cntI : cntD x [.int i] R M = ∃ ns, lsInts M x ns ∧ R (.int (ns.count i : Nat)) M := (rfl)
end
end L2.DL
/-! DLu: sorted of ints, two subscripts at once, in / not in, defs that call themselves -/
namespace L2.DL
open PySem PySem.Spec PyProof.Rows
variable [Tbs]
theorem bt_sorted : bootBuiltins "sorted" = some (.builtin "sorted") := by decide +kernel
def sorD : List D → PD → MS → Prop
  | [d], R, M => ∃ ns, lsInts M d ns ∧ ∀ ns' : List Int, ns'.Perm ns → ns'.Pairwise (· ≤ ·) → R (.lst (ns'.map D.int)) M
  | _, _, _ => False
theorem c_sorted {X : Cx} : CallD X (.builtin "sorted") sorD := by
  refine ⟨_, cr_sortedI, fun z H M xs vs R Q m ra h hc => ?_⟩
  unfold sorD at h
  split at h
  · cases ra with
    | cons x y =>
      cases y
      obtain ⟨ns, s, q⟩ := h
      obtain ⟨p, rfl, s2⟩ := lsInts_at m s x
      exact ⟨_, ns, rfl, s2, fun ns' l hp hw hl => hc _ _ _ _ (q ns' hp hw) (relM_new m hl) (.lst (fz_new m hl) relA_ints) (ext_new m hl)⟩
  · exact h.elim
theorem q_sorL {ns : List Int} {R : PD} {M : MS} (q : ∀ ns' : List Int, ns'.Perm ns → ns'.Pairwise (· ≤ ·) → R (.lst (ns'.map D.int)) M) : sorD [.lst (ns.map D.int)] R M := ⟨ns, rfl, q⟩
theorem q_sor2 {i j : Int} {R : PD} {M : MS} (q : R (.lst [.int (if j < i then j else i), .int (if j < i then i else j)]) M) : sorD [.lst [.int i, .int j]] R M := by
  refine q_sorL (ns := [i, j]) fun ns' hp hw => ?_
  have hl := hp.length_eq
  match ns', hl with
  | [a, b], _ =>
    have hab : a ≤ b := by simpa using hw
    have hm : ∀ x, x ∈ [a, b] ↔ x ∈ [i, j] := fun x => hp.mem_iff
    have h1 := (hm a).mp (by simp)
    have h2 := (hm b).mp (by simp)
    have h3 := (hm i).mpr (by simp)
    have h4 := (hm j).mpr (by simp)
    simp only [List.mem_cons, List.not_mem_nil, or_false] at h1 h2 h3 h4
    have e : a = (if j < i then j else i) ∧ b = (if j < i then i else j) := by split <;> omega
    rw [e.1, e.2]
    exact q
/-! o[i], p[j] = x, y -/
section
variable {X : Cx} {W : WX} {e : Expr} {te : DTE} {pos : Pos}
theorem gsub_ok {to ti : DTE} {z : Hd} {ρ : Sl} {σ : St} {H : Hp} {M : MS} {d : D} {v : V} {k : MS → Prop} {Ex : XP} {Q : St → Hp → Prop} (hs : RelS ⟨X.K, z⟩ H M σ ρ) (hm : RelM ⟨X.K, z⟩ H M) (r1 : Rel ⟨X.K, z⟩ H M v d)
    (h : to ρ (fun o M2 => ti ρ (fun i M3 => setLD o i d k M3) Ex M2) Ex M) (hx : XOk ⟨X.K, z⟩ H M W Ex)
    (hc : ∀ H' M', k M' → RelM ⟨X.K, z⟩ H' M' → Ext ⟨X.K, z⟩ H M H' M' → Q σ H') :
    gSub (lift X.K W to) (lift X.K W ti) rSetL v σ H Q :=
  ⟨z, ρ, M, _, _, hs, hm, h, fun oo M2 vo H2 h2 m2 r2 e2 =>
      ⟨z, ρ, M2, _, _, hs.ext e2, m2, h2, fun ii M3 vi H3 h3 m3 r3 e3 => by
        have ro := e3 _ _ r2
        have rd := (e2.trans e3) _ _ r1
        cases oo with
        | ref a =>
          cases ii with
          | int k =>
            cases ro; cases r3
            obtain ⟨ds, j, ea, ej, q⟩ := h3
            obtain ⟨vs, eh, ra⟩ := m3.at' _ _ ea
            have w : Ext ⟨X.K, z⟩ H3 M3 (upd H3 a (.lst (vs.set j v))) (um M3 a (.lst (ds.set j d))) := ext_write m3 ea
            exact ⟨_, vs, _, j, rfl, rfl, eh, by rw [ra.length]; exact ej, hc _ _ q (relM_write m3 ea ⟨_, upd_same, w.all (ra.set rd j)⟩) (e2.trans (e3.trans w))⟩
          | _ => exact (show False from h3).elim
        | _ => exact (show False from h3).elim, hx.ext e2⟩, hx⟩
/-- two subscripts take the items of a pair -/
def dAsgS2 (te to1 ti1 to2 ti2 : DTE) : DTS := fun De ρ M => te ρ (fun d M1 => match d with
  | .tup [x, y] => to1 ρ (fun o M2 => ti1 ρ (fun i M3 => setLD o i x (fun M4 => to2 ρ (fun o' M5 => ti2 ρ (fun i' M6 => setLD o' i' y (fun M7 => De.nx ρ M7) M6) De.ex M5) De.ex M4) M3) De.ex M2) De.ex M1
  | _ => False) De.ex M
theorem ds_asgS2 {o1 i1 o2 i2 : Expr} {to1 ti1 to2 ti2 : DTE} {p1 p2 pt : Pos} {kt : Nat} (hcalm : X.calm = true) (he : DE X W e te) (ho1 : DE X W o1 to1) (hi1 : DE X W i1 ti1) (ho2 : DE X W o2 to2) (hi2 : DE X W i2 ti2)
    (hs : swapsWithSole [.Tuple [.Subscript o1 i1 p1, .Subscript o2 i2 p2] kt pt] e pos.line X.env = pure false := by rfl) (hw : swappedStores [.Tuple [.Subscript o1 i1 p1, .Subscript o2 i2 p2] kt pt] e X.env = pure none := by rfl)
    (h1 : (assignEach [.Tuple [.Subscript o1 i1 p1, .Subscript o2 i2 p2] kt pt] X.env).map (·.2) = [assign (.Tuple [.Subscript o1 i1 p1, .Subscript o2 i2 p2] kt pt) X.env] := by rfl)
    (e2 : (assignEach [.Subscript o1 i1 p1, .Subscript o2 i2 p2] X.env).map (·.2) = assign (.Subscript o1 i1 p1) X.env :: (assignEach [.Subscript o2 i2 p2] X.env).map (·.2) := by rfl)
    (e3 : (assignEach [.Subscript o2 i2 p2] X.env).map (·.2) = assign (.Subscript o2 i2 p2) X.env :: (assignEach [] X.env).map (·.2) := by rfl)
    (hn : (assignEach [.Subscript o1 i1 p1, .Subscript o2 i2 p2] X.env).length = 2 := by rfl) (hst : (assignEach [.Subscript o1 i1 p1, .Subscript o2 i2 p2] X.env).findIdx? (·.1) = none := by rfl)
    (ha1 : ∀ v, assign (.Subscript o1 i1 p1) X.env v = (do
      let ov ← holding [v] (eval o1 X.env)
      let iv ← holding [v, ov] (eval i1 X.env)
      standAt p1
      holding [v, ov, iv] (setItem ov iv v)
      release [v, ov, iv] []) := by intro _; rfl)
    (ha2 : ∀ v, assign (.Subscript o2 i2 p2) X.env v = (do
      let ov ← holding [v] (eval o2 X.env)
      let iv ← holding [v, ov] (eval i2 X.env)
      standAt p2
      holding [v, ov, iv] (setItem ov iv v)
      release [v, ov, iv] []) := by intro _; rfl) :
    DS X W (.Assign [.Tuple [.Subscript o1 i1 p1, .Subscript o2 i2 p2] kt pt] e pos) (dAsgS2 te to1 ti1 to2 ti2) :=
  impS (ps_asg he (pg_tup hcalm (pgs_cons (pg_sub ho1 hi1 set_list ha1) (pgs_cons (pg_sub ho2 hi2 set_list ha2) pgs_nil e3) e2) hn hst) hs hw h1) fun De σ H ⟨z, ρ, M, Dd, hs, hm, h, L⟩ =>
    ⟨z, ρ, M, _, _, hs, hm, h, fun d M1 v H1 h1 m1 r1 e1 => by
      dsimp only at h1
      split at h1
      · rename_i x y
        cases r1 with
        | tup sq ra =>
          have rl := ra.length
          cases ra with
          | cons ra1 ra2 =>
            cases ra2 with
            | cons ra2 ra3 =>
              cases ra3
              refine ⟨_, _, rfl, sq, rfl, _, _, rfl, ?_⟩
              refine gsub_ok (hs.ext e1) m1 ra1 h1 (L.ext e1).ex fun H4 M4 h4 m4 e4 => ?_
              refine ⟨_, _, rfl, ?_⟩
              refine gsub_ok (hs.ext (e1.trans e4)) m4 (e4 _ _ ra2) h4 (L.ext (e1.trans e4)).ex fun H7 M7 h7 m7 e7 => ?_
              exact ⟨rfl, L.nx _ _ _ _ h7 m7 (hs.ext (e1.trans (e4.trans e7))) (e1.trans (e4.trans e7))⟩
      · exact h1.elim, L.ex⟩
end
/-! in -/
theorem room65 {k : Nat} {A : Around} (r : Room k A) : A.units + 65 < cLine := by have := r.un; omega
def inG (f : Bool → Bool) (x y : D) (R : PD) (M : MS) : Prop := ∃ e es, Sees M x e ∧ Sees M y (.lst es) ∧ isP e = true ∧ isPs es = true ∧ SeqAt.shaped (pd e) = true ∧ SeqAt.shaped (pd (.lst es)) = true ∧ R (.bl (f ((pds es).any fun z => PyData.eqv z (pd e)))) M
def inD : D → D → PD → MS → Prop := inG id
def notInD : D → D → PD → MS → Prop := inG fun k => !k
theorem o_in {X : Cx} (hu : X.A.units + 65 < cLine) : OpD X (compareOp .In) inD := by
  refine ⟨_, op_inD hu, fun z H M x y vx vy R Q m rx ry h hc => ?_⟩
  obtain ⟨e, es, sx, sy, px, py, hx, hy, q⟩ := h
  exact ⟨_, _, dp_sees m sx px rx, dp_sees (e := .lst es) m sy py ry, hx, hy, hc.here q m (.bl _)⟩
theorem o_notin {X : Cx} (hu : X.A.units + 65 < cLine) : OpD X (compareOp .NotIn) notInD := by
  refine ⟨_, op_notInD hu, fun z H M x y vx vy R Q m rx ry h hc => ?_⟩
  obtain ⟨e, es, sx, sy, px, py, hx, hy, q⟩ := h
  exact ⟨_, _, dp_sees m sx px rx, dp_sees (e := .lst es) m sy py ry, hx, hy, hc.here q m (.bl _)⟩
/-! defs that call themselves -/
section
variable {P : Program} {w : World} {K : PySem.W.Frag} {mg : Str → Option Value} {base : Heap}
theorem Df.vac {x : Str} {st : Stmt} {ps : List Str} {k : Nat} {g : G} (T : Tx K mg x st)
    (bd : ∀ (kV doc pm : Value) (an : Option Addr) (cdv ct : Value) (us : List Value), us.length = ps.length → bindArgs (PySem.W.fnOf x x (defArgs st) (defBody st) (defScope st) .none kV doc pm an cdv ct) ⟨us, []⟩ = pure (ps.zip us))
    (h0 : ∀ ds R E M, g ds R E M → False) : Df P w K mg base x ps k g := by
  obtain ⟨f, fd, h1, F⟩ := T.ex
  refine ⟨f, fd, h1, F.kp, F.binds bd, ⟨fun ds R E M h => (h0 _ _ _ _ h).elim, fun A outer s H args us vs Q E hr hG e0 hbd r hsp => ?_⟩⟩
  obtain ⟨z, ds, M, R, RE, ra, rm, hgg, _⟩ := hsp
  exact (h0 _ _ _ _ hgg).elim
end
section
variable {De : DEnds} {ρ : Sl} {M : MS} {te to1 ti1 to2 ti2 : DTE}
theorem v_asgS2 : dAsgS2 te to1 ti1 to2 ti2 De ρ M = te ρ (fun d M1 => match d with
  | .tup [x, y] => to1 ρ (fun o M2 => ti1 ρ (fun i M3 => setLD o i x (fun M4 => to2 ρ (fun o' M5 => ti2 ρ (fun i' M6 => setLD o' i' y (fun M7 => De.nx ρ M7) M6) De.ex M5) De.ex M4) M3) De.ex M2) De.ex M1
  | _ => False) De.ex M := (rfl)
end
section
variable {M : MS} {R : PD} {ds : List D}
theorem q_lstT : lstD [.tup ds] R M = R (.lst ds) M := by
  apply propext
  constructor
  · rintro ⟨a, h1, h2⟩
    cases (show a = ds from h1)
    exact h2
  · exact fun h => ⟨_, rfl, h⟩
theorem q_lstL : lstD [.lst ds] R M = R (.lst ds) M := by
  apply propext
  constructor
  · rintro ⟨a, h1, h2⟩
    cases (show a = ds from h1)
    exact h2
  · exact fun h => ⟨_, rfl, h⟩
theorem q_lstNT : lstND [.tup ds] R M = ∀ p, M p = none → R (.ref p) (um M p (.lst ds)) := by
  apply propext
  constructor
  · rintro ⟨a, h1, h2⟩
    cases (show a = ds from h1)
    exact h2
  · exact fun h => ⟨_, rfl, h⟩
end
end L2.DL
/-! DLv: tuples repeated -/
namespace L2.DL
open PySem PySem.Spec PyProof.Rows
variable [Tbs]
def mulTD : D → D → PD → MS → Prop
  | .tup ds, .int k, R, M => ds ≠ [] ∧ 2 ≤ k ∧ k ≤ 1000 ∧ ds.length ≤ 1000 ∧ R (.tup (List.replicate k.toNat ds).flatten) M
  | _, _, _, _ => False
theorem o_mulT {X : Cx} : OpD X (binaryOp .Mult) mulTD := by
  refine ⟨_, op_repT, fun z H M x y vx vy R Q m rx ry h hc => ?_⟩
  unfold mulTD at h
  split at h
  · obtain ⟨h0, h1, h2, h3, q⟩ := h
    cases ry
    cases rx with
    | tup sx ax =>
      refine ⟨_, _, _, rfl, rfl, sx, fun e => h0 ?_, h1, h2, by rw [ax.length]; exact h3, fun p hp => hc _ _ _ _ q (relM_new m hp) (.tup (SqT.of upd_same) ((ext_new m hp).all (ax.rep _))) (ext_new m hp)⟩
      have l := ax.length
      rw [e] at l
      exact List.eq_nil_of_length_eq_zero l.symm
  · exact h.elim
section
variable {M : MS} {R : PD} {ds : List D} {k : Int}
theorem q_mulT : mulTD (.tup ds) (.int k) R M = (ds ≠ [] ∧ 2 ≤ k ∧ k ≤ 1000 ∧ ds.length ≤ 1000 ∧ R (.tup (List.replicate k.toNat ds).flatten) M) := (rfl)
end
end L2.DL
/-! DLw: three names at once -/
namespace L2.DL
open PySem PySem.Spec PyProof.Rows
variable [Tbs]
section
variable {X : Cx} {W : WX} {a b c : Expr} {pos : Pos}
def dPar3 (i j l : Nat) (ta : DTA) : DTS := fun De ρ M => ta ρ (fun ds M1 => match ds with | [x, y, z] => De.nx (((ρ.set i (some x)).set j (some y)).set l (some z)) M1 | _ => False) De.ex M
theorem ds_par3 (i j l : Nat) {x y w : Str} {px py pw pt pt2 : Pos} {kt k2 : Nat} {ta : DTA} (hc : X.calm = true) (hN : X.N.Nodup) (ha : DA X W [a, b, c] ta) (hi : X.N[i]? = some x := by rfl) (hj : X.N[j]? = some y := by rfl) (hl : X.N[l]? = some w := by rfl) (hij : i ≠ j := by decide) (hil : i ≠ l := by decide) (hjl : j ≠ l := by decide)
    (hx : X.env.scope.names.lookup x = some .local := by rfl) (hy : X.env.scope.names.lookup y = some .local := by rfl) (hw0 : X.env.scope.names.lookup w = some .local := by rfl)
    (hw : swappedStores [.Tuple [.Name x px, .Name y py, .Name w pw] kt pt] (.Tuple [a, b, c] k2 pt2) X.env = pure (some [x, y, w]) := by rfl)
    (hs : swapsWithSole [.Tuple [.Name x px, .Name y py, .Name w pw] kt pt] (.Tuple [a, b, c] k2 pt2) pos.line X.env = pure false := by rfl) :
    DS X W (.Assign [.Tuple [.Name x px, .Name y py, .Name w pw] kt pt] (.Tuple [a, b, c] k2 pt2) pos) (dPar3 i j l ta) :=
  impS (ps_par3 hc hN hi hj hl hij hil hjl hx hy hw0 ha hw hs) fun De σ H ⟨z, ρ, M, Dd, hs, hm, h, L⟩ =>
    ⟨z, ρ, M, _, _, hs, hm, h, fun ds M1 vs H1 h1 m1 r1 e1 => by
      cases r1 with
      | nil => exact (show False from h1).elim
      | cons a1 r1 =>
        cases r1 with
        | nil => exact (show False from h1).elim
        | cons a2 r1 =>
          cases r1 with
          | nil => exact (show False from h1).elim
          | cons a3 r1 =>
            cases r1 with
            | nil => exact ⟨_, _, _, rfl, L.nx _ _ _ _ h1 m1 ((((hs.ext e1).set i a1).set j a2).set l a3) e1⟩
            | cons a4 r1 => exact (show False from h1).elim, L.ex⟩
end
section
variable {De : DEnds} {ρ : Sl} {M : MS} {tl : DTA} {i j l : Nat}
theorem v_par3 : dPar3 i j l tl De ρ M = tl ρ (fun ds M1 => match ds with | [x, y, z] => De.nx (((ρ.set i (some x)).set j (some y)).set l (some z)) M1 | _ => False) De.ex M := (rfl)
end
end L2.DL
/-! DLx: exceptions of own classes over any built-in base, their __init__ walked -/
namespace PySem
namespace OXG
open PySem.W PySem.Calls PyProof.Rows PySem.HandSPX
/-- own classes, then the base's own line of classes -/
inductive Ch (T : List Value) : List Value → Prop
  | base : Ch T T
  | own {c : Addr} {r : List Value} (h : Ch T r) : Ch T (.ref c :: r)
/-- what the base says -/
structure ChF (T : List Value) : Prop where
  pass : ∀ self, refuseLoop self "__setattr__" T = pure ()
  ob : T.contains (.type "object") = true
  ne : T.isEmpty = false
theorem Ch.pass {T : List Value} (F : ChF T) (self : Value) : ∀ {l : List Value}, Ch T l → refuseLoop self "__setattr__" l = pure ()
  | _, .base => F.pass self
  | _, .own h => by rw [refuseLoop_ref]; exact h.pass F self
theorem Ch.con {T : List Value} (X : String) : ∀ {l : List Value}, Ch T l → l.contains (.type X) = T.contains (.type X)
  | _, .base => rfl
  | _, .own h => by rw [List.contains_cons, h.con X]; rfl
theorem Ch.ne {T : List Value} (F : ChF T) : ∀ {l : List Value}, Ch T l → l.isEmpty = false
  | _, .base => F.ne
  | _, .own _ => rfl
section
open Builtin Builtin.ObjectAttr
variable {prog : Program} {w : World} {A : Around} {E : Value → Shared → Prop} {R : Result → Shared → Prop} {hp : Heap} {g : Array GenState} {d : Drawn} {t : Nat} {os : OsState} {T : List Value}
/-- the first field that an exception gets -/
theorem put_first {K : W.Frag} {name : Str} {tk : Tok} {v : Value} {x C : Addr} {fv : Array Value} {cd : ClassData} (F : ChF T)
    (X : K.In hp) (hx : hp.get? x = some { cls := .ref C, data := .fields fv }) (hcd : W.clsIn K C = some cd) (hm : Ch T cd.mro) (hh : cd.hasDict = true) (ha : W.findIn K (.ref C) name = some none)
    (hq : ∀ h' tk' dx, (∀ b o, b ≠ x → hp.get? b = some o → h'.get? b = some o) → hp.objs.size ≤ dx → dx ≠ x → h'.get? x = some { cls := .ref C, dict := some dx, data := .fields fv } →
      h'.Ns1 dx (fun y => if y = name then some v else none) → R (.ok (.ret .none)) ⟨h', g, d, tk', os⟩) :
    codeAny (model prog w) A (.call (.builtin "object.__setattr__") ⟨[.ref x, .str name tk, v], []⟩) R ⟨hp, g, d, t, os⟩ := by
  have I : W.InstAt hp x { cls := .ref C, data := .fields fv } C none := ⟨hx, rfl, rfl, trivial⟩
  have SF := PySem.F.store_object
  have ne := hm.ne F
  have hob : cd.mro.contains (.type "object") = true := (hm.con "object").trans F.ob
  have hxs : x ≠ hp.objs.size := Nat.ne_of_lt (Heap.lt_size hx)
  have sub : W.Looks (model prog w) hp (isInstance (.ref x) (.type "object")) true := I.type.andThen (W.looks_mroIn X (by unfold W.mroIn; rw [hcd, Option.bind_some, if_neg (by rw [ne]; decide), hob]))
  refine codeAny_call_builtin SF.slot.plain SF.entry (@W.check_slot (model prog w) _ _ ⟨hp, g, d, t, os⟩ "object.__setattr__" "object" "__setattr__" (.ref x) [.str name tk, v] [] _ SF.kind SF.split sub (SF.args (.ref x) (.str name tk) v) ?_)
  have hmr : W.Looks (model prog w) hp (mroOf (.ref C)) cd.mro := (W.looks_clsIn X hcd).andThen .now
  have L3 : W.Looks (model prog w) hp (storeTaker? none) none := .now
  have hcls : W.Looks (model prog w) hp (classData C) cd := W.looks_clsIn X hcd
  rw [W.osa_eq, refuse_eq]
  refine wpAny_bind (wpAny_bind (I.type.at (wpAny_bind (hmr.at ?_))))
  rw [hm.pass F]
  refine wpAny_pure (wpAny_bind (I.type.at (wpAny_bind ((W.looks_findIn X ha).at (wpAny_bind (L3.at ?_))))))
  show wpAny _ _ (storeInOwnDict (.ref x) (.ref C) (.str name tk) name v false) _ _ _
  obtain ⟨nm, bs, mro, ns, qn, hd, sn, sb, ab, col, del⟩ := cd
  dsimp only at hh
  subst hh
  unfold storeInOwnDict ownDictForStores
  repeat (first | with_reducible refine store_in_new ?_ ?_ | with_reducible refine wpAny_loadPart_at hx ?_ | with_reducible refine hcls.at ?_ | wp_step)
  · exact ⟨_, #[], _, (Heap.get?_update_ne _ _ _ _ hxs.symm).trans (Heap.get?_push_at rfl rfl), rfl, fun e he => absurd he (by simp), fun _ => rfl⟩
  · intro h' tk' hn' hs
    have hx₁ : (hp.push { cls := .type "dict", data := .dict #[] }).get? x = some { cls := .ref C, data := .fields fv } := Heap.get?_push_of_some _ hx
    refine hq h' tk' hp.objs.size (fun b o hb ho => ?_) (Nat.le_refl _) hxs.symm ?_ hn'
    · exact (hs.2 b (Nat.ne_of_lt (Heap.lt_size ho))).trans ((Heap.get?_update_ne _ _ _ _ hb).trans (Heap.get?_push_of_some _ ho))
    · exact (hs.2 x hxs).trans (Heap.get?_update_self _ hx₁ rfl)
/-- a further one -/
theorem put_more {K : W.Frag} {name : Str} {tk : Tok} {v : Value} {x C dx : Addr} {fv : Array Value} {cd : ClassData} {m0 : Str → Option Value} {nl : List Str} (F : ChF T)
    (X : K.In hp) (hx : hp.get? x = some { cls := .ref C, dict := some dx, data := .fields fv }) (hns : hp.Ns1 dx m0) (hw : Within m0 nl) (hz : nl.length ≤ 1000) (hcd : W.clsIn K C = some cd) (hm : Ch T cd.mro) (hh : cd.hasDict = true)
    (ha : W.findIn K (.ref C) name = some none)
    (hq : ∀ h' tk', (∀ b o, b ≠ dx → hp.get? b = some o → h'.get? b = some o) → h'.Ns1 dx (fun y => if y = name then some v else m0 y) → R (.ok (.ret .none)) ⟨h', g, d, tk', os⟩) :
    codeAny (model prog w) A (.call (.builtin "object.__setattr__") ⟨[.ref x, .str name tk, v], []⟩) R ⟨hp, g, d, t, os⟩ := by
  obtain ⟨oD, esD, epD, hoD, hdD, _⟩ := hns.count hw
  have I : W.InstAt hp x { cls := .ref C, dict := some dx, data := .fields fv } C (some oD) := ⟨hx, rfl, rfl, hoD⟩
  have SF := PySem.F.store_object
  have ne := hm.ne F
  have hob : cd.mro.contains (.type "object") = true := (hm.con "object").trans F.ob
  have sub : W.Looks (model prog w) hp (isInstance (.ref x) (.type "object")) true := I.type.andThen (W.looks_mroIn X (by unfold W.mroIn; rw [hcd, Option.bind_some, if_neg (by rw [ne]; decide), hob]))
  refine codeAny_call_builtin SF.slot.plain SF.entry (@W.check_slot (model prog w) _ _ ⟨hp, g, d, t, os⟩ "object.__setattr__" "object" "__setattr__" (.ref x) [.str name tk, v] [] _ SF.kind SF.split sub (SF.args (.ref x) (.str name tk) v) ?_)
  have hmr : W.Looks (model prog w) hp (mroOf (.ref C)) cd.mro := (W.looks_clsIn X hcd).andThen .now
  have L3 : W.Looks (model prog w) hp (storeTaker? none) none := .now
  have hcls : W.Looks (model prog w) hp (classData C) cd := W.looks_clsIn X hcd
  rw [W.osa_eq, refuse_eq]
  refine wpAny_bind (wpAny_bind (I.type.at (wpAny_bind (hmr.at ?_))))
  rw [hm.pass F]
  refine wpAny_pure (wpAny_bind (I.type.at (wpAny_bind ((W.looks_findIn X ha).at (wpAny_bind (L3.at ?_))))))
  show wpAny _ _ (storeInOwnDict (.ref x) (.ref C) (.str name tk) name v false) _ _ _
  obtain ⟨nm, bs, mro, ns, qn, hd, sn, sb, ab, col, del⟩ := cd
  dsimp only at hh
  subst hh
  unfold storeInOwnDict ownDictForStores
  repeat (first | with_reducible refine PySem.OEX.store_in_old hns hw hz ?_ | with_reducible refine wpAny_loadPart_at hx ?_ | with_reducible refine hcls.at ?_ | wp_step)
  intro h' tk' hn' hs
  exact hq h' tk' (fun b o hb ho => (hs.2 b hb).trans ho) hn'
end
abbrev tV : List Value := [.type "ValueError", .type "Exception", .type "BaseException", .type "object"]
abbrev tL : List Value := [.type "LookupError", .type "Exception", .type "BaseException", .type "object"]
abbrev tZ : List Value := [.type "ZeroDivisionError", .type "ArithmeticError", .type "Exception", .type "BaseException", .type "object"]
theorem chV : ChF tV := ⟨fun self => PySem.F.store_ValueError.passes self, by decide +kernel, rfl⟩
theorem chL : ChF tL := ⟨fun self => PySem.F.store_LookupError.passes self, by decide +kernel, rfl⟩
theorem chZ : ChF tZ := ⟨fun self => PySem.F.store_ZeroDivisionError.passes self, by decide +kernel, rfl⟩
end OXG
end PySem
/-! DLy: the fields of an exception that is being made; its base's __init__; the class called -/
namespace L2
open PySem PySem.Spec PyProof.Rows PySem.OXG
/-- what the written part says of an own exception class over the base B -/
structure Ow (K : PySem.W.Frag) (C : Addr) (T : List Value) (newId : String) : Prop where
  cls : ∃ nm q N bs bm sn sub ab col dd k0 k1 k2 k3 k5, K.lookup C = some (excClassObj nm q C N bs bm true sn sub ab col dd k0 k1 k2 k3 k5 newId) ∧ Ch T bm
  sa : PySem.W.findIn K (.ref C) "__setattr__" = some (some (.builtin "object.__setattr__"))
  exC : PySem.W.subIn K (.ref C) (.type "BaseException") = some true
  tyC : PySem.W.typeIn K (.ref C) = some (.type "type")
  kC : PySem.W.keepIn K (.ref C) = true
section
variable {X : Cx} {pins : List (Addr × Obj)} {σ : St} {H : Hp} {s : Shared} {a C dx : Addr} {f : Str} {y : V} {u : Value} {fs : List (Str × V)} {Q : Unit → Shared → Prop} {E : Value → Shared → Prop} {A : Around} {T : List Value} {B newId initId : String}
theorem ow_cls {K : PySem.W.Frag} (O : Ow K C T newId) : ∃ cd : ClassData, PySem.W.clsIn K C = some cd ∧ Ch T cd.mro ∧ cd.hasDict = true := by
  obtain ⟨nm, q, N, bs, bm, sn, sub, ab, col, dd, k0, k1, k2, k3, k5, hC, hbm⟩ := O.cls
  refine ⟨{ name := nm, bases := bs, mro := .ref C :: bm, ns := N, qualname := q, hasDict := true, slotNames := sn, subclasses := sub, abstract := ab, collection := col, hasDel := false }, ?_, .own hbm, rfl⟩
  unfold PySem.W.clsIn
  rw [hC]
/-- self.f = y, the first one -/
theorem fld_new (F : ChF T) (O : Ow X.K C T newId) (I : Inv X pins σ H s) (e : H a = some (exo a C none)) (hno : PySem.W.findIn X.K (.ref C) f = some none) (ry : RelV y u)
    (h : ∀ dx s', H dx = none → dx ≠ a → Inv X pins σ (upd (upd H dx (exd dx [(f, y)])) a (exo a C (some dx))) s' → Q () s') : wpAny (model X.prog X.w) A (setAttr (.ref a) f u) Q E s := by
  obtain ⟨cd, hcl, hch, hhd⟩ := ow_cls O
  obtain ⟨t1, ho⟩ := exo_at I.hok e
  obtain ⟨hp, g, d, t, os⟩ := s
  refine PySem.W.set_plain I.kIn (ox := { cls := .ref C, dict := none, data := .fields #[.ref t1, .none, .none, .none, .bool false, .none] }) (od := none) ⟨ho, rfl, rfl, trivial⟩ O.sa ?_
  refine put_first F I.kIn ho hcl hch hhd hno (fun h' tk' dx k dn dne hx hn => ?_)
  have hnd : H dx = none := I.hok.fresh dn
  have nd : ∀ {b : Addr} {o : Obj}, hp.get? b = some o → b ≠ dx := fun {b o} q => Nat.ne_of_lt (Nat.lt_of_lt_of_le (Heap.lt_size q) dn)
  have na : ∀ {b : Addr}, H b = none → b ≠ a := fun {b} n z => by
    rw [z, e] at n
    cases n
  have Un1 : Un X.fs [] H (upd (upd H dx (exd dx [(f, y)])) a (exo a C (some dx))) hp h' := {
    keep := fun b o q n _ _ => k b o (na n) q
    slot := fun b o q n _ _ => ⟨o.slots, k b o (na n) q⟩
    free := fun b o q n _ => by rw [upd_ne (na n), upd_ne (nd q)]; exact n
    there := fun b o q _ => by
      by_cases hb : b = a
      · exact ⟨_, by rw [hb]; exact hx⟩
      · exact ⟨o, k b o hb q⟩
    tups := fun b xs q => by rw [upd_ne (at_ne e q exo_tup), upd_ne (ne_of_none q hnd)]; exact q
    frzs := fun b o v q => by rw [upd_ne (at_ne e q exo_frz), upd_ne (ne_of_none q hnd)]; exact q
    tbls := fun b ps q => ⟨#[], by rw [upd_ne (at_ne e q exo_tbl), upd_ne (ne_of_none q hnd), q]; simp⟩ }
  refine h dx _ hnd dne (I.un (t' := tk') Un1 fun b o q => ?_)
  by_cases hb : b = a
  · subst hb
    rw [upd_same] at q
    cases q
    exact exo_ok hx
  · rw [upd_ne hb] at q
    by_cases hd : b = dx
    · subst hd
      rw [upd_same] at q
      cases q
      exact exd_ok hn (relO_put (fs := []) ry fun g => True.intro)
    · rw [upd_ne hd] at q
      exact (I.hok b o q).stay (fun c v hc z => k c v (by
          rcases hc with hc | hc
          · rw [hc]
            exact hb
          · exact at_ne e hc exo_own) z)
        (fun c hc => by rw [upd_ne (at_ne e hc exo_own), upd_ne (ne_of_none hc hnd)]; exact hc) (fun c xs hc => by rw [upd_ne (at_ne e hc exo_tup), upd_ne (ne_of_none hc hnd)]; exact hc)
/-- self.f = y, a further one -/
theorem fld_more (F : ChF T) (O : Ow X.K C T newId) (I : Inv X pins σ H s) (e : H a = some (exo a C (some dx))) (ed : H dx = some (exd dx fs)) (hl : fs.length ≤ 900) (hno : PySem.W.findIn X.K (.ref C) f = some none) (ry : RelV y u)
    (h : ∀ s', Inv X pins σ (upd H dx (exd dx ((f, y) :: fs))) s' → Q () s') : wpAny (model X.prog X.w) A (setAttr (.ref a) f u) Q E s := by
  obtain ⟨cd, hcl, hch, hhd⟩ := ow_cls O
  obtain ⟨t1, ho⟩ := exo_at I.hok e
  obtain ⟨mA, hns, rel⟩ := exd_at I.hok ed
  have hw := within_of rel
  obtain ⟨hp, g, d, t, os⟩ := s
  obtain ⟨oD, _, _, hoD, _, _⟩ := hns.count hw
  refine PySem.W.set_plain I.kIn (ox := { cls := .ref C, dict := some dx, data := .fields #[.ref t1, .none, .none, .none, .bool false, .none] }) (od := some oD) ⟨ho, rfl, rfl, hoD⟩ O.sa ?_
  refine put_more F I.kIn ho hns hw (by rw [List.length_map]; omega) hcl hch hhd hno (fun h' tk' k hn => ?_)
  have hd : ∃ o, h'.get? dx = some o := by
    obtain ⟨o, _, _, e', _⟩ := hn
    exact ⟨o, e'⟩
  exact h _ (I.write (t' := tk') (x := dx) (e := dx) (o := exd dx ((f, y) :: fs)) (by rw [ed]; exact True.intro) (.inl rfl) k hd (exd_ok hn (relO_put ry rel)))
/-- the base's __init__ of it: nothing of it is told -/
theorem base_init (G : ExcBaseFacts B newId initId T) {us : List Value} {Q : Value → Shared → Prop} (O : Ow X.K C T newId) (I : Inv X pins σ H s) (e : H a = some (exo a C none)) (hl : us.length ≤ sizeLine) (h : ∀ s', Inv X pins σ H s' → Q .none s') :
    wpAny (model X.prog X.w) A (call (.builtin initId) (.ref a :: us)) Q E s := by
  obtain ⟨nm, q, N, bs, bm, sn, sub, ab, col, dd, k0, k1, k2, k3, k5, hC, hbm⟩ := O.cls
  obtain ⟨t1, ho⟩ := exo_at I.hok e
  obtain ⟨hp, g, d, t, os⟩ := s
  refine wpAny_call (PySem.HandSPX.init_base G (fun Y => hbm.con Y) (I.kIn _ _ hC) ho hl fun h' t2 k hx => ?_)
  have J := I.write (t' := t) (x := a) (e := a) (o := exo a C none) (by rw [e]; exact True.intro) (.inl rfl) k ⟨_, hx⟩ (exo_ok hx)
  have eu : upd H a (exo a C none) = H := by
    funext b
    by_cases hb : b = a
    · rw [hb, upd_same, e]
    · rw [upd_ne hb]
  rw [eu] at J
  exact h _ J
end

/-! readings and rules -/
/-- Base.__init__(self, ..), Base an own class -/
def tBI (K : PySem.W.Frag) (T : List Value) (newId : String) (ta : TA) : TE := fun σ H Q => ta σ H fun vs H1 => ∃ (a C : Addr) (ws : List V), vs = .ref a :: ws ∧ ws.length ≤ 1000 ∧ Ow K C T newId ∧ H1 a = some (exo a C none) ∧ Q .non H1
/-- self.f = e -/
def tFldX (K : PySem.W.Frag) (T : List Value) (newId : String) (f : Str) (to te : TE) : TS := fun D σ H => te σ H fun y H1 => to σ H1 fun x H2 => ∃ a C : Addr, x = .ref a ∧ Ow K C T newId ∧ PySem.W.findIn K (.ref C) f = some none ∧
  ((H2 a = some (exo a C none) ∧ ∀ dx, H2 dx = none → dx ≠ a → D.nx σ (upd (upd H2 dx (exd dx [(f, y)])) a (exo a C (some dx)))) ∨
    ∃ (dx : Addr) (fs : List (Str × V)), H2 a = some (exo a C (some dx)) ∧ H2 dx = some (exd dx fs) ∧ fs.length ≤ 900 ∧ D.nx σ (upd H2 dx (exd dx ((f, y) :: fs))))
/-- what an own base class says of its __init__ -/
structure BaseC (K : PySem.W.Frag) (C0 : Addr) (initId : String) : Prop where
  ga : PySem.W.specialIn K (.ref C0) "__getattribute__" = some (some (.builtin "type.__getattribute__"))
  rd : PySem.W.readsIn K C0 (.type "type") = true
  fd : PySem.W.findCls K (.ref C0) (.type "type") "__init__" = some (.val (.builtin initId))
  hi : PySem.W.handedIn (.builtin initId) = true
section
variable {X : Cx} {o e : Expr} {es : List Expr} {to te : TE} {ta : TA} {f : Str} {p p' p1 p2 pos : Pos} {T : List Value} {B newId initId : String}
theorem pe_binit {C0 : Addr} {x : Str} {pl : Sem Bool} (G : ExcBaseFacts B newId initId T) (hg : Gl X x) (hm : X.mg x = some (.ref C0)) (b : BaseC X.K C0 initId) (ha : PA X (e :: es) ta)
    (hdb : (x == ("__debug__" : Str)) = false := by decide)
    (hc : eval (.Call (.Attribute (.Name x p1) "__init__" p2) (e :: es) [] pos) X.env = (do
      let ov ← eval (.Name x p1) X.env
      standAt p2.atName
      let (f, first) ← holding [ov] (getMethod ov "__init__" pl)
      callWith pos f first (backTo pos (starEach (e :: es) X.env)) (backToKw pos (keywordEach [] X.env))) := by rfl)
    (he : starEach (e :: es) X.env = (false, eval e X.env) :: starEach es X.env := by rfl) (hpl : (backTo pos (starEach es X.env)).any (·.1) = false := by rfl) :
    PE X (.Call (.Attribute (.Name x p1) "__init__" p2) (e :: es) [] pos) (tBI X.K T newId ta) := by
  refine ⟨fun pins s σ H Q I h => ?_⟩
  refine PySem.W.methodCall_KW (ld_glob I hg hm ?_ hdb) hc
  refine PySem.W.method_cls I.kIn b.ga (PySem.W.cls_value I.kIn b.rd b.fd b.hi ?_)
  show wpAny _ _ (callWith pos (Value.builtin initId) [] (backTo pos (starEach (e :: es) X.env)) []) _ _ _
  refine PyProof.Rows.callWith_method1 (thn (ha.run pos pins _ σ H _ (I.tok _) h) fun us s1 ⟨vs, H1, I1, r1, a, C, ws, ev, hl, O, ea, q⟩ => ?_) he hpl
  subst ev
  cases r1 with
  | @cons _ u0 _ ur ra rw' =>
    obtain rfl : u0 = Value.ref a := ra
    have hlen : ur.length ≤ sizeLine := by
      rw [← Paired.length rw', sizeLine_eq]
      omega
    exact base_init G O I1 ea hlen fun s' J => ⟨.non, H1, J, rfl, q⟩
theorem ps_fldX (F : ChF T) (ho : PE X o to) (he : PE X e te) (hs : swapsWith e (some (.Attribute o f p')) pos.line X.env = pure false := by rfl) : PS X (.Assign [.Attribute o f p'] e pos) (tFldX X.K T newId f to te) := by
  refine ⟨fun pins s σ H D I h => ?_⟩
  refine plainObj_wpAny_Assign_Attribute (thn (he.run pins s σ H _ I h) fun v s1 ⟨y, H1, I1, r1, q1⟩ => thn (ho.run pins s1 σ H1 _ I1 q1) fun u s2 ⟨x, H2, I2, r2, a, C, ex, O, hno, q⟩ => ?_) hs
  subst ex
  obtain rfl : u = Value.ref a := r2
  rcases q with ⟨ea, q⟩ | ⟨dx, fs, ea, ed, hl, q⟩
  · exact fld_new F O I2 ea hno r1 fun dx s' n ne J => ⟨σ, _, J, q dx n ne⟩
  · exact fld_more F O I2 ea ed hl hno r1 fun s' J => ⟨σ, _, J, q⟩
/-- C(e, ..), C's own __init__ keeping sp -/
theorem pmk_ownX {CX : CXT} {x : Str} {C fI : Addr} {k : Nat} {fd : FuncData} {ps : List Str} {sp : Sp} {ds : List Value} {dvs : List V} (G : ExcBaseFacts B newId initId T) (O : Ow X.K C T newId) (iC : PySem.W.findIn X.K (.ref C) "__init__" = some (some (.ref fI))) (tI : PySem.W.typeIn X.K (.ref fI) = some (.type "function"))
    (F1 : FnOk X.prog X.w X.K X.mg X.base CX k fI fd ps sp) (hr : Room (k + 1) X.A) (hb : Binds X.K fd ps ds) (hd : Vals dvs ds) (hx : Passes CX X (fun _ _ _ => False)) (hg : Gl X x) (hm : X.mg x = some (.ref C)) (ha : PA X (e :: es) ta)
    (hdb : (x == ("__debug__" : Str)) = false := by decide) (he : starEach (e :: es) X.env = (false, eval e X.env) :: starEach es X.env := by rfl) (hpl : (backTo pos (starEach es X.env)).any (·.1) = false := by rfl) :
    PMk X (.Call (.Name x p) (e :: es) [] pos) (tMkO C sp dvs ta) := by
  intro pins s σ H Q I h
  obtain ⟨nm, q, N, bs, bm, sn, sub, ab, col, dd, k0, k1, k2, k3, k5, hC, hbm⟩ := O.cls
  refine wpAny_Call_Name_kw (ld_glob I hg hm ?_ hdb)
  refine PySem.W.callWith_K (h₀ := X.base) I.ok.mod.kin O.kC (thn (ha.run pos pins s σ H _ I h) fun us s1 ⟨vs, H1, I1, r1, hz, q1⟩ => ⟨I1.kIn, ?_⟩) he hpl
  show wpAny _ _ (call (.ref C) us) _ _ _
  obtain ⟨hp, g, dr, tk, os⟩ := s1
  have hsz : hp.objs.size ≤ hp.objs.size + 1 := Nat.le_succ _
  have hn : H1 (hp.objs.size + 1) = none := I1.hok.fresh hsz
  have hq := q1 (hp.objs.size + 1) hn
  have kk : ∀ b o, hp.get? b = some o → ((hp.push (PySem.W.kdv_tup us)).push (PySem.HandSPX.excO C hp.objs.size)).get? b = some o := fun b o e => Heap.get?_push_of_some _ (Heap.get?_push_of_some _ e)
  have hget : ((hp.push (PySem.W.kdv_tup us)).push (PySem.HandSPX.excO C hp.objs.size)).get? (hp.objs.size + 1) = some (PySem.HandSPX.excO C hp.objs.size) := by heap_get
  have I2 : Inv X pins σ (upd H1 (hp.objs.size + 1) (exo (hp.objs.size + 1) C none)) ⟨(hp.push (PySem.W.kdv_tup us)).push (PySem.HandSPX.excO C hp.objs.size), g, dr, tk, os⟩ :=
    I1.laid (t' := tk) (a := hp.objs.size + 1) (o := exo (hp.objs.size + 1) C none) (h' := (hp.push (PySem.W.kdv_tup us)).push (PySem.HandSPX.excO C hp.objs.size)) kk hsz (exo_ok hget)
  have r2 : Vals (V.ref (hp.objs.size + 1) :: (vs ++ dvs)) (Value.ref (hp.objs.size + 1) :: (us ++ ds)) := .cons rfl (r1.append hd)
  have hl : (Value.ref (hp.objs.size + 1) :: us ++ ds).length = ps.length := by
    have e := r2.length
    rw [F1.len _ _ _ _ hq] at e
    exact e.symm
  have hus : us.length ≤ sizeLine := by
    rw [← Paired.length r1, sizeLine_eq]
    omega
  refine wpAny_call (PySem.HandSPX.call_own G (fun Y => hbm.con Y) (I1.kIn _ _ hC) (PySem.W.looks_findIn I1.kIn iC) (fun self => PySem.W.bind_fn I1.kIn self tI) hus
    (codeAny_mono (F1.run _ X.stack _ _ ⟨Value.ref (hp.objs.size + 1) :: us, []⟩ (Value.ref (hp.objs.size + 1) :: (us ++ ds)) _ _ (fun _ _ _ => False) (hr.make C us []) (I2.env0.make C us []) (hb _ (Value.ref (hp.objs.size + 1) :: us) I2.kIn hl) r2 hq) fun r s' hq' => ?_))
  cases r with
  | error er => exact hx pins σ _ _ er s' I2 hq'
  | ok fl =>
    cases fl with
    | ret u =>
      obtain ⟨v, H2, os2, bare2, un2, hok2, rv, ev, d, fs, ea, ed, hd1, q2⟩ := hq'
      subst ev
      obtain ⟨h2, g2, d2, t2, os'⟩ := s'
      exact ⟨rv, mk_end (raises_own O.exC O.tyC) I1 hsz kk un2 hok2 os2 bare2 ea ed hd1 q2⟩
    | next => exact False.elim hq'
    | brk => exact False.elim hq'
    | cont => exact False.elim hq'
end
end L2
/-! DLz: enumerate of tuples and lists in loops -/
namespace PySem
open Sem (wp)
open AutoSeq1 (wpAny_loadPart')
theorem meets_enumT (l : Addr) (items : Array Value) (n : Nat) (dct : Option Addr) (sl : Array (Option Value)) :
    Meets (Builtin.«enumerate.__new__» ⟨[.type "enumerate", .ref l], []⟩) (fun _ R s => s.heap.get? l = some { cls := .type "tuple", dict := dct, data := .seq items n, slots := sl } ∧
      R (.ok (.ret (.ref (s.heap.push { cls := .type "tuple_iterator", data := .fields #[.ref l, .int 0 0] }).objs.size)))
        { s with heap := (s.heap.push { cls := .type "tuple_iterator", data := .fields #[.ref l, .int 0 0] }).push { cls := .type "enumerate", data := .fields #[.none, .bool false, .ref s.heap.objs.size, rawInt 0, .none, .none] } }) :=
  .of_wp fun prog w A R s h => by
    obtain ⟨hp, g, d, tk, os⟩ := s; obtain ⟨hl, h⟩ := h
    have hsub := sub_enumerate
    have hL : Heap.IsTuple (Shared.heap ⟨hp, g, d, tk, os⟩) l items := ⟨_, hl, rfl, n, rfl⟩
    wp_walk using wpAny_loadPart' hl
    refine wpAny_stack_any fun st => wpAny_pure ?_
    split
    · rename_i c _ _ _ _ _
      cases (c == Value.type "enumerate")
      · wp_walk using wpAny_loadPart' hl, wpAny_pyIter_tuple hL
        exact ⟨_, rfl, h⟩
      · wp_walk using wpAny_loadPart' hl, wpAny_pyIter_tuple hL
        exact ⟨_, rfl, h⟩
    · wp_walk using wpAny_loadPart' hl, wpAny_pyIter_tuple hL
      exact ⟨_, rfl, h⟩
section
variable {prog : Program} {w : World} {A : Around} {E : Value → Shared → Prop} {s : Shared}
theorem call_enumT {l : Addr} {items : Array Value} {Q : Value → Shared → Prop} (hL : s.heap.IsTuple l items)
    (h : ∀ h', IsEnum h' (s.heap.objs.size + 1) s.heap.objs.size 0 .none → h'.IsTupleIter s.heap.objs.size l 0 → h'.objs.size = s.heap.objs.size + 2 →
      (∀ b o, s.heap.get? b = some o → h'.get? b = some o) → Q (.ref (s.heap.objs.size + 1)) { s with heap := h' }) :
    wpAny (model prog w) A (call (.type "enumerate") [.ref l]) Q E s := by
  obtain ⟨⟨c, dct, dt, sl⟩, hl, hc, n, hd⟩ := hL
  replace hc : c = .type "tuple" := hc
  replace hd : dt = .seq items n := hd
  subst hc hd
  refine callType_new F.called_enumerate (by decide) (F.typeCall_enumerate_1 _) (F.newCall_enumerate_1 _) (fun obj => F.args_object_init_2 obj _) F.entry_enumerate_new
    (meets_enumT l items n dct sl) ⟨hl, ?_⟩
  have hz : (s.heap.push { cls := .type "tuple_iterator", data := .fields #[.ref l, .int 0 0] }).objs.size = s.heap.objs.size + 1 := Heap.size_push ..
  show _ ∧ _
  rw [hz]
  have he : IsEnum ((s.heap.push { cls := .type "tuple_iterator", data := .fields #[.ref l, .int 0 0] }).push
      { cls := .type "enumerate", data := .fields #[.none, .bool false, .ref s.heap.objs.size, rawInt 0, .none, .none] }) (s.heap.objs.size + 1) s.heap.objs.size 0 .none := by
    have := Heap.get?_push_size (s.heap.push { cls := .type "tuple_iterator", data := .fields #[.ref l, .int 0 0] })
      (o := { cls := .type "enumerate", data := .fields #[.none, .bool false, .ref s.heap.objs.size, rawInt 0, .none, .none] }) rfl
    rw [hz] at this; exact this
  refine ⟨⟨_, he, rfl⟩, h _ he ⟨_, Heap.get?_push_of_some _ (Heap.get?_push_size _ rfl), rfl, rfl⟩ (by rw [Heap.size_push, hz]) fun b o x => Heap.get?_push_of_some _ (Heap.get?_push_of_some _ x)⟩
end
end PySem
namespace L2
open PySem PySem.Spec PyProof.Rows
/-- the tuple at a as it stands at each turn, each item in a new pair -/
def IteT (K : PySem.W.Frag) (a : Addr) : It :=
  ⟨fun i H => ∃ (xs : List V) (x : V), SqT K H a xs ∧ xs[i]? = some x, fun i H v H' => ∃ T x, v = .ref T ∧ H T = none ∧ H' = upd H T (.tup [.int (i : Nat), x]) ∧ ∀ xs, SqT K H a xs → xs[i]? = some x, fun i H => ∃ xs : List V, SqT K H a xs ∧ xs.length ≤ i⟩
theorem turn_enumT {P : Program} {w : World} {K : PySem.W.Frag} {elts : List Expr} {kk : Nat} {tpos : Pos} (a e it : Addr) :
    Turn P w K (.Tuple elts kk tpos) (IteT K a) [e, it] e (fun i h => (∃ old, IsEnum h e it ((i : Nat) : Int) old) ∧ h.IsTupleIter it a i ∧ e ≠ it ∧ a ≠ it ∧ a ≠ e) where
  mem := by simp
  obj := fun i h st b hb => by
    obtain ⟨⟨old, he⟩, ⟨o, ho, hc, hd⟩, _⟩ := st
    have e' : b = e ∨ b = it := by simpa using hb
    rcases e' with z | z
    · rw [z]; exact ⟨_, he, fun v q => nomatch q⟩
    · rw [z]; exact ⟨o, ho, fun v q => by rw [hd] at q; cases q⟩
  keep := fun i h h' st k => let ⟨⟨old, he⟩, hi, hne⟩ := st; ⟨⟨old, k e (by simp) _ he⟩, hi.at fun o q => k it (by simp) o q, hne⟩
  item := by
    intro X hP hw hK hc i pins s σ H E I hf st hg
    subst hP hw hK
    obtain ⟨⟨old, he⟩, hit, hne, hai, hae⟩ := st
    obtain ⟨xs, x, hq, hx⟩ := hg
    obtain ⟨its, rv, p, hz⟩ := I.tuple hq
    obtain ⟨u, hu, ru⟩ := rv.get hx
    have hel : e < s.heap.objs.size := Heap.lt_size he
    have hil : it < s.heap.objs.size := by obtain ⟨_, q, _⟩ := hit; exact Heap.lt_size q
    have hlt : i < its.toArray.size := by
      rw [List.size_toArray]
      exact (List.getElem?_eq_some_iff.mp hu).1
    refine wpAny_pyNext_enum_itemD (Draws.tuple (prog := X.prog) (w := X.w) (A := X.A.in1) (show X.A.in1.handled = none from I.ok.hd hc) it a hai its.toArray) he ⟨hit, p⟩ hlt hne (by simp [hne, Ne.symm hae]) fun x' h' tk hPx ho st' hT hsz hk => ?_
    have ex : x' = u := by
      have : its[i]? = some x' := by simpa using hPx
      rw [hu] at this
      exact (Option.some.inj this).symm
    subst ex
    obtain ⟨hit', p'⟩ := st'
    refine ⟨_, rfl, wpAny_letOwnedTupleGo_enum (s := { s with heap := h', toks := tk + 1 }) ho fun h'' he' sb => ?_⟩
    have hT2 : h''.get? s.heap.objs.size = some { cls := .type "tuple", data := .seq #[.int i tk, x'] } := (sb.2 _ (Nat.ne_of_gt hel)).trans hT
    have new : ObjOk X.prog X.w (upd H s.heap.objs.size (.tup [.int (i : Nat), x])) h'' s.heap.objs.size (.tup [.int (i : Nat), x]) :=
      ⟨by show 2 ≤ sizeLine; decide, [.int i tk, x'], .cons ⟨_, rfl⟩ (.cons ru .nil), ⟨_, hT2, rfl, _, rfl⟩⟩
    have I1 : Inv X pins σ (upd H s.heap.objs.size (.tup [.int (i : Nat), x])) { s with heap := h'', toks := tk + 1 } :=
      I.turnedNew (ch := [e, it]) (fun b ob hb q => (sb.2 b (fun z => hb (by simp [z]))).trans (hk b ob (fun z => hb (by simp [z])) (fun z => hb (by simp [z])) q)) hf (Nat.le_refl _) new
    refine ⟨.ref s.heap.objs.size, _, I1, rfl, ⟨_, x, rfl, I.hok.fresh (Nat.le_refl _), rfl, fun ys hy => by rw [I.tuple_inj hy hq]; exact hx⟩, ⟨⟨x', ?_⟩, hit'.at fun o q => (sb.2 it (Ne.symm hne)).trans q, hne, hai, hae⟩, fun b hb => ?_⟩
    · have e1 : ((i + 1 : Nat) : Int) = (i : Int) + 1 := by omega
      rw [e1]; exact he'
    · have hb' : b < s.heap.objs.size := by
        have e' : b = e ∨ b = it := by simpa using hb
        rcases e' with z | z
        · rw [z]; exact hel
        · rw [z]; exact hil
      rw [upd_ne (Nat.ne_of_lt hb')]
      exact (hf b hb).1
  done := by
    intro X hP hw hK hc i pins s σ H E I hf st hg
    subst hP hw hK
    obtain ⟨⟨old, he⟩, hit, hne, hai, hae⟩ := st
    obtain ⟨xs, hq, hx⟩ := hg
    obtain ⟨its, rv, p, hz⟩ := I.tuple hq
    obtain ⟨f0, f1, f2, f3, f4, f5⟩ := hf it (by simp)
    have hl := rv.length
    have hT : s.TypeIs (.ref e) "enumerate" := ⟨_, he, rfl⟩
    unfold pyNext
    refine wpAny_bind (wpAny_attempt (wpAny_callSpecial?_slot (name := Str.ofString "__next__") hT F.slot_enumerate_next
      (wpAny_call_entry F.slot_enumerate_next hT F.entry_enumerate_next ?_ (F.args_enumerate_next_1 _))))
    show wpAny _ _ (field (.ref e) 2 >>= _) _ _ _
    refine wpAny_bind (wpAny_field he rfl (x := .ref it) rfl ?_)
    refine wpAny_bind (wpAny_nextOf_tuple_end (I.ok.hd hc) hit p (by simp; omega) fun h' x he' hx' => ?_)
    obtain ⟨o, ho, hcc⟩ := hx'
    refine wpAny_bind (wpAny_isInstance (T := "StopIteration") (b := true) ⟨o, ho, hcc⟩ isSubtype_stop ?_)
    exact wpAny_pure ⟨rfl, I.turned (t' := s.toks) (fun b o hb q => he' b o hb q) f0 f1 f3 f4 f5⟩
  self := fun A i s Q E st h => let ⟨⟨_, he⟩, _⟩ := st; wpAny_pyIter_enum he h
def iEnumA (K : PySem.W.Frag) (ta : TA) : TI := fun σ H R => ta σ H fun vs H1 => ∃ a xs, vs = [.ref a] ∧ ((SqL K H1 a xs ∧ R (Ite K a) H1) ∨ (SqT K H1 a xs ∧ R (IteT K a) H1))
theorem pi_enumA {X : Cx} {e : Expr} {ta : TA} {p pos tpos : Pos} {elts : List Expr} {kk : Nat} (hg : Gl X "enumerate") (hm : X.mg "enumerate" = none) (ha : PA X [e] ta) (hs : starEach [e] X.env = [(false, eval e X.env)] := by rfl) :
    PI X (.Tuple elts kk tpos) (.Call (.Name "enumerate" p) [e] [] pos) (iEnumA X.K ta) := by
  refine ⟨fun pins s σ H R I h => ?_⟩
  refine Call_ (ld_blt I hg hm PyProof.Rows.boot_enumerate (PyProof.Rows.callWith_type1 (thn (ha.run pos pins s σ H _ I h) fun us s1 ⟨vs, H1, I1, r1, q1⟩ => ?_) hs rfl))
  obtain ⟨a, xs, ex, q1⟩ := q1
  subst ex
  cases r1 with
  | cons r rr =>
    cases rr
    cases r
    have fresh2 : ∀ b, b ∈ [s1.heap.objs.size + 1, s1.heap.objs.size] → FpOk X pins H1 b := fun b hb => by
      have e' : b = s1.heap.objs.size + 1 ∨ b = s1.heap.objs.size := by simpa using hb
      have hle : s1.heap.objs.size ≤ b := by
        rcases e' with z | z
        · rw [z]; exact Nat.le_add_right _ _
        · rw [z]; exact Nat.le_refl _
      exact I1.fpOk hle (I1.hok.fresh hle)
    rcases q1 with ⟨hq, q⟩ | ⟨hq, q⟩
    · obtain ⟨its, rv, p', hz⟩ := I1.list hq
      refine call_enumerate_list p'.isList fun h' he hit hsz hk => wpAny_pyIter_enum he ?_
      have I2 : Inv X pins σ H1 { s1 with heap := h' } := I1.kept (t' := s1.toks) hk
      exact ⟨s1.heap.objs.size + 1, [s1.heap.objs.size + 1, s1.heap.objs.size], _, _, H1, rfl, I2, turn_enum a (s1.heap.objs.size + 1) s1.heap.objs.size, ⟨⟨.none, he⟩, hit, Nat.succ_ne_self _⟩, fresh2, q⟩
    · obtain ⟨its, rv, p', hz⟩ := I1.tuple hq
      obtain ⟨oa, hoa, _⟩ := id p'
      have hlt : a < s1.heap.objs.size := Heap.lt_size hoa
      refine call_enumT (show s1.heap.IsTuple a its.toArray from p') fun h' he hit hsz hk => wpAny_pyIter_enum he ?_
      have I2 : Inv X pins σ H1 { s1 with heap := h' } := I1.kept (t' := s1.toks) hk
      exact ⟨s1.heap.objs.size + 1, [s1.heap.objs.size + 1, s1.heap.objs.size], _, _, H1, rfl, I2, turn_enumT a (s1.heap.objs.size + 1) s1.heap.objs.size, ⟨⟨.none, he⟩, hit, Nat.succ_ne_self _, Nat.ne_of_lt hlt, Nat.ne_of_lt (Nat.lt_succ_of_lt hlt)⟩, fresh2, q⟩
end L2
namespace L2.DL
open PySem PySem.Spec PyProof.Rows
variable [Tbs]
def enuD (ds : List D) : List D := ds.mapIdx fun (i : Nat) d => D.tup [.int i, d]
theorem enuD_len {ds : List D} : (enuD ds).length = ds.length := by unfold enuD; rw [List.length_mapIdx]
theorem enuD_at {ds : List D} {i : Nat} {d : D} (h : ds[i]? = some d) : (enuD ds)[i]? = some (.tup [.int i, d]) := by unfold enuD; rw [List.getElem?_mapIdx, h]; rfl
section
variable {K : ZK} {H : Hp} {M : MS}
theorem itOk_enumT {a : Addr} {xs : List D} (r1 : Rel K H M (.ref a) (.tup xs)) : ItOk K (IteT K.K a) (enuD xs) H M where
  go := fun K' i H' M' hk hi m e => by
    rw [enuD_len] at hi
    cases e _ _ r1 with
    | tup s ra =>
      obtain ⟨v, q, _⟩ := ra.get (List.getElem?_eq_getElem hi)
      exact ⟨_, v, hk.1 ▸ s, q⟩
  stop := fun K' H' M' hk m e => by
    rw [enuD_len]
    cases e _ _ r1 with
    | tup s ra => exact ⟨_, hk.1 ▸ s, Nat.le_of_eq ra.length⟩
  yld := fun K' i x H' M' H'' hk hi m e y => by
    obtain ⟨T, vx, rfl, hT, rfl, f1⟩ := y
    cases e _ _ r1 with
    | tup s ra =>
      obtain ⟨d1, q1, e1⟩ := ra.getV (f1 _ (hk.1 ▸ s))
      exact ⟨_, enuD_at q1, rel_pair hT m (.int _) e1, relM_new m hT, ext_new m hT⟩
theorem itOk_enumL {a : Addr} {xs : List D} (r1 : Rel K H M (.ref a) (.lst xs)) : ItOk K (Ite K.K a) (enuD xs) H M where
  go := fun K' i H' M' hk hi m e => by
    rw [enuD_len] at hi
    cases e _ _ r1 with
    | lst s ra =>
      obtain ⟨v, q, _⟩ := ra.get (List.getElem?_eq_getElem hi)
      exact ⟨_, v, hk.1 ▸ s.sq, q⟩
  stop := fun K' H' M' hk m e => by
    rw [enuD_len]
    cases e _ _ r1 with
    | lst s ra => exact ⟨_, hk.1 ▸ s.sq, Nat.le_of_eq ra.length⟩
  yld := fun K' i x H' M' H'' hk hi m e y => by
    obtain ⟨T, vx, rfl, hT, rfl, f1⟩ := y
    cases e _ _ r1 with
    | lst s ra =>
      obtain ⟨d1, q1, e1⟩ := ra.getV (f1 _ (hk.1 ▸ s.sq))
      exact ⟨_, enuD_at q1, rel_pair hT m (.int _) e1, relM_new m hT, ext_new m hT⟩
end
def enuR : List D → (List D → MS → Prop) → MS → Prop
  | [.tup xs], R, M => R (enuD xs) M
  | [.lst xs], R, M => R (enuD xs) M
  | _, _, _ => False
def dEnum (t : DTA) : DTI := fun ρ R E M => t ρ (fun ds M1 => enuR ds R M1) E M
section
variable {X : Cx} {W : WX} {a : Expr} {pos : Pos}
theorem di_enum {t : DTA} {pp tpos : Pos} {elts : List Expr} {kk : Nat} (hm : X.mg "enumerate" = none) (ha : DA X W [a] t) (hg : Gl X "enumerate" := by rfl) (hs : starEach [a] X.env = [(false, eval a X.env)] := by rfl) :
    DI X W (.Tuple elts kk tpos) (.Call (.Name "enumerate" pp) [a] [] pos) (dEnum t) :=
  impI (pi_enumA hg hm ha hs) fun σ H Q ⟨z, ρ, M, R, E, hs, hm, h, hc, hE⟩ =>
    ⟨z, ρ, M, _, E, hs, hm, h, fun ds M1 vs H1 h1 m1 r1 e1 => by
      unfold enuR at h1
      split at h1
      · cases r1 with
        | cons x y =>
          cases y
          cases x with
          | tup s ra => exact ⟨_, _, rfl, .inr ⟨s, hc _ _ _ _ h1 m1 e1 (itOk_enumT (.tup s ra))⟩⟩
      · cases r1 with
        | cons x y =>
          cases y
          cases x with
          | lst s ra => exact ⟨_, _, rfl, .inl ⟨s.sq, hc _ _ _ _ h1 m1 e1 (itOk_enumL (.lst s ra))⟩⟩
      · exact h1.elim, hE⟩
end
section
variable {ρ : Sl} {M : MS} {t : DTA} {xs : List D} {R : List D → MS → Prop}
theorem v_enum : dEnum t ρ = fun (R : List D → MS → Prop) E M => t ρ (fun ds M1 => enuR ds R M1) E M := (rfl)
theorem q_enuT : enuR [.tup xs] R M = R (enuD xs) M := (rfl)
theorem q_enuL : enuR [.lst xs] R M = R (enuD xs) M := (rfl)
theorem enuD_map {α : Type} (e : α → D) (ps : List α) : enuD (ps.map e) = ps.mapIdx fun (i : Nat) p => D.tup [.int i, e p] := by
  unfold enuD
  apply List.ext_getElem?
  intro i
  rw [List.getElem?_mapIdx, List.getElem?_map, List.getElem?_mapIdx]
  cases ps[i]? <;> rfl
end
end L2.DL
namespace L2
open PySem PySem.Spec PyProof.Rows
/-- in, not in: of a tuple's data -/
def rInT (K : PySem.W.Frag) (f : Bool → Bool) : R2 := fun x y H Q => ∃ d ds, Dp K H x d ∧ Dp K H y (.tuple ds) ∧ SeqAt.shaped d = true ∧ SeqAt.shaped (.tuple ds) = true ∧ Q (.bl (f (ds.any fun z => PyData.eqv z d))) H
section
variable {X : Cx}
theorem op_inT (hu : X.A.units + 65 < cLine) : OpR X (compareOp .In) (rInT X.K id) := by
  intro pins s σ H x y v u Q I rx ry h
  obtain ⟨d, ds, hd, he, sd, se, q⟩ := h
  obtain ⟨as, r1⟩ := Dp.reads I d x v hd rx
  obtain ⟨bs, r2⟩ := Dp.reads I (.tuple ds) y u he ry
  have cl : PyData.canLayAll0 ds = true := by
    have := SeqAt.canLay_of_shaped se
    simpa [PyData.canLay0] using this
  exact SeqAt.in_tuple_reads r2 r1 cl (SeqAt.canLay_of_shaped sd) (room_in_shaped sd hu) ⟨.bl _, H, I, rfl, q⟩
theorem op_notInT (hu : X.A.units + 65 < cLine) : OpR X (compareOp .NotIn) (rInT X.K fun k => !k) := by
  intro pins s σ H x y v u Q I rx ry h
  obtain ⟨d, ds, hd, he, sd, se, q⟩ := h
  obtain ⟨as, r1⟩ := Dp.reads I d x v hd rx
  obtain ⟨bs, r2⟩ := Dp.reads I (.tuple ds) y u he ry
  have cl : PyData.canLayAll0 ds = true := by
    have := SeqAt.canLay_of_shaped se
    simpa [PyData.canLay0] using this
  exact SeqAt.notIn_tuple_reads r2 r1 cl (SeqAt.canLay_of_shaped sd) (room_in_shaped sd hu) ⟨.bl _, H, I, rfl, q⟩
end
end L2
namespace L2.DL
open PySem PySem.Spec PyProof.Rows
variable [Tbs]
def inTG (f : Bool → Bool) : D → D → PD → MS → Prop
  | x, .tup es, R, M => ∃ e, Sees M x e ∧ isP e = true ∧ isPs es = true ∧ SeqAt.shaped (pd e) = true ∧ SeqAt.shaped (pd (.tup es)) = true ∧ R (.bl (f ((pds es).any fun z => PyData.eqv z (pd e)))) M
  | _, _, _, _ => False
def inTD : D → D → PD → MS → Prop := inTG id
def notInTD : D → D → PD → MS → Prop := inTG fun k => !k
theorem o_inT {X : Cx} (hu : X.A.units + 65 < cLine) : OpD X (compareOp .In) inTD := by
  refine ⟨_, op_inT hu, fun z H M x y vx vy R Q m rx ry h hc => ?_⟩
  unfold inTD inTG at h
  split at h
  · obtain ⟨e, sx, px, py, hx, hy, q⟩ := h
    exact ⟨_, _, dp_sees m sx px rx, dp_of (.tup _) _ py ry, hx, hy, hc.here q m (.bl _)⟩
  · exact h.elim
theorem o_notinT {X : Cx} (hu : X.A.units + 65 < cLine) : OpD X (compareOp .NotIn) notInTD := by
  refine ⟨_, op_notInT hu, fun z H M x y vx vy R Q m rx ry h hc => ?_⟩
  unfold notInTD inTG at h
  split at h
  · obtain ⟨e, sx, px, py, hx, hy, q⟩ := h
    exact ⟨_, _, dp_sees m sx px rx, dp_of (.tup _) _ py ry, hx, hy, hc.here q m (.bl _)⟩
  · exact h.elim
end L2.DL
/-! DLza: t[::k] of a tuple, k one or minus one as it is told -/
namespace L2.DL
open PySem PySem.Spec PyProof.Rows
variable [Tbs]
section
variable {prog : Program} {w : World} {A : Around} {E : Value → Shared → Prop} {s : Shared}
theorem one_places (n : Nat) : Builtin.Slice.slicePlaces 0 (n : Int) 1 = n := by
  unfold Builtin.Slice.slicePlaces
  have h1 : (1 : Int) > 0 := by omega
  simp only [h1, if_true]
  split
  · rw [Int.ediv_one]; omega
  · omega
theorem getItem_one {t sl : Addr} {items : Array Value} {vl vu vk : Value} {Q : Value → Shared → Prop} (ht : IsTup s.heap t items) (hs : s.heap.IsSliceOf sl vl vu vk) (pl : IsPart vl none) (pu : IsPart vu none) (pk : IsPart vk (some 1))
    (h : Q (.ref t) s) (hsz : items.size ≤ sizeLine) : wpAny (model prog w) A (getItem (.ref t) (.ref sl)) Q E s := by
  obtain ⟨os, hos, hcs, hds⟩ := id hs
  have hTs : s.TypeIs (.ref sl) "slice" := ⟨os, hos, hcs⟩
  have sa : ∀ {Q : Int × Int × Nat → Shared → Prop}, Q ((0 : Int), 1, items.size) s → wpAny (model prog w) A.in1 (Builtin.Slice.sliceApplied (.ref sl) (pure (items.size : Int))) Q E s := fun {Q} h => by
    unfold Builtin.Slice.sliceApplied Builtin.Slice.sliceFields
    refine wpAny_bind (wpAny_bind (wpAny_field hos hds (x := vl) rfl (wpAny_bind (wpAny_field hos hds (x := vu) rfl (wpAny_bind (wpAny_field hos hds (x := vk) rfl (wpAny_pure ?_)))))))
    refine wpAny_bind (HT.slicePart_ pk ?_)
    show wpAny _ _ (if ((1 : Int) == 0) = true then _ else _) _ _ s
    rw [if_neg (by decide)]
    refine wpAny_bind (HT.slicePart_ pl (wpAny_bind (HT.slicePart_ pu (wpAny_bind (wpAny_pure ?_)))))
    show wpAny _ _ (pure ((0 : Int), (1 : Int), Builtin.Slice.slicePlaces 0 (items.size : Int) 1)) _ _ s
    rw [one_places]
    exact wpAny_pure h
  unfold getItem
  try with_reducible refine wpAny_holding ?_
  first | refine wpAny_bind (wpAny_pure ?_) | skip
  refine wpAny_bind (wpAny_sequenceKey ht.typeIs (by decide) ?_)
  refine wpAny_bind (wpAny_callSpecial?_slot (name := Str.ofString "__getitem__") ht.typeIs PyProof.Rows.slot_tuple_getitem
    (wpAny_call_entry PyProof.Rows.slot_tuple_getitem ht.typeIs PyProof.Rows.entry_tuple_getitem ?_ (PyProof.Rows.args_tuple_getitem _ _)))
  show wpAny _ _ (Builtin.Tuple.tupleItemsOf (.ref t) >>= _) _ _ s
  refine wpAny_bind (PyProof.Rows.tupleItemsOf_ ht ?_)
  refine wpAny_bind (wpAny_typeOf hTs ?_)
  rw [if_pos (by decide)]
  refine wpAny_bind (sa ?_)
  show wpAny _ _ (if ((0 : Int) == 0 && (1 : Int) == 1 && items.size == items.size) = true then _ else _) _ _ s
  rw [if_pos (by simp)]
  refine wpAny_bind ?_
  unfold Builtin.Tuple.tupleIsExact
  first
    | refine wpAny_bind (wpAny_typeOf ht.typeIs (wpAny_pure ?_))
    | refine wpAny_typeOf ht.typeIs ?_
    | refine wpAny_bind (wpAny_typeOf ht.typeIs ?_)
  rw [if_pos (by decide)]
  exact wpAny_bind (wpAny_rule (wpAny_pure ⟨_, rfl, wpAny_pure h⟩))
end
section
variable {X : Cx}
def tStepA (K : PySem.W.Frag) (te ts : TE) : TE := fun σ H Q => te σ H fun x H1 => ts σ H1 fun y H2 => ∃ a xs k, x = .ref a ∧ y = .int k ∧ SqT K H2 a xs ∧ ((k = 1 ∧ Q (.ref a) H2) ∨ (k = -1 ∧ ∀ p, H2 p = none → Q (.ref p) (upd H2 p (.tup xs.reverse))))
theorem pe_stepA {e st : Expr} {te ts : TE} {p3 pos : Pos} (he : PE X e te) (hs : PE X st ts) : PE X (.Subscript e (.Slice none none (some st) p3) pos) (tStepA X.K te ts) := by
  refine ⟨fun pins s σ H Q I h => ?_⟩
  refine Subscript_ (thn (he.run pins s σ H _ I h) fun v s1 ⟨x, H1, I1, r1, hq⟩ => ?_)
  have hst : PO X (some st) (tPart ts) := po_some hs
  have hm3 : ∀ (t : TE) H0, t σ H0 (fun y H2 => ∃ a xs k, x = .ref a ∧ y = .int k ∧ SqT X.K H2 a xs ∧ ((k = 1 ∧ Q (.ref a) H2) ∨ (k = -1 ∧ ∀ p, H2 p = none → Q (.ref p) (upd H2 p (.tup xs.reverse))))) →
      t σ H0 (fun y H2 => ∃ i, y = .int i ∧ ∃ a xs k, x = .ref a ∧ some i = some k ∧ SqT X.K H2 a xs ∧ ((k = 1 ∧ Q (.ref a) H2) ∨ (k = -1 ∧ ∀ p, H2 p = none → Q (.ref p) (upd H2 p (.tup xs.reverse))))) := fun t H0 h => by
    have e : (fun (y : V) (H2 : Hp) => ∃ a xs k, x = V.ref a ∧ y = V.int k ∧ SqT X.K H2 a xs ∧ ((k = 1 ∧ Q (.ref a) H2) ∨ (k = -1 ∧ ∀ p, H2 p = none → Q (.ref p) (upd H2 p (.tup xs.reverse))))) = (fun y H2 => ∃ i, y = .int i ∧ ∃ a xs k, x = .ref a ∧ some i = some k ∧ SqT X.K H2 a xs ∧ ((k = 1 ∧ Q (.ref a) H2) ∨ (k = -1 ∧ ∀ p, H2 p = none → Q (.ref p) (upd H2 p (.tup xs.reverse))))) := by
      funext y H2
      apply propext
      constructor
      · rintro ⟨a, xs, k, h1, h2, h3, h4⟩
        exact ⟨k, h2, a, xs, k, h1, rfl, h3, h4⟩
      · rintro ⟨i, h2, a, xs, k, h1, h5, h3, h4⟩
        cases h5
        exact ⟨a, xs, i, h1, h2, h3, h4⟩
    rw [← e]
    exact h
  refine wpAny_Slice (thn (po_none.run pins s1 σ H1 (fun o z2 => o = none ∧ z2 = H1) I1 ⟨rfl, rfl⟩) fun vl s2 ⟨l, H2, I2, pl, el, e2⟩ => ?_)
  subst el e2
  refine thn (po_none.run pins s2 σ H2 (fun o z3 => o = none ∧ z3 = H2) I2 ⟨rfl, rfl⟩) fun vu s3 ⟨u, H3, I3, pu, eu, e3⟩ => ?_
  subst eu e3
  refine thn (hst.run pins s3 σ H3 (fun o z4 => ∃ a xs k, x = .ref a ∧ o = some k ∧ SqT X.K z4 a xs ∧ ((k = 1 ∧ Q (.ref a) z4) ∨ (k = -1 ∧ ∀ p, z4 p = none → Q (.ref p) (upd z4 p (.tup xs.reverse))))) I3 ?_) fun vs s4 ⟨o, H4, I4, ps, a, xs, k, ex, eo, hx, hr⟩ => ?_
  · exact hm3 _ _ hq
  · subst ex eo
    cases r1
    have I5 : Inv X pins σ H4 { s4 with heap := s4.heap.push { cls := .type "slice", data := .fields #[vl, vu, vs] } } := I4.kept (t' := s4.toks) fun b ob q => Heap.get?_push_of_some _ q
    show wpAny (model X.prog X.w) X.A (subscriptTail e (.Slice none none (some st) p3) (.ref a) (.ref s4.heap.objs.size)) (EP X pins σ Q) X.xe { s4 with heap := s4.heap.push { cls := .type "slice", data := .fields #[vl, vu, vs] } }
    obtain ⟨its, r, ht, hz⟩ := I5.tuple hx
    have hlen := r.length
    refine tail_any (ops := [.ref a, .ref s4.heap.objs.size]) ht.typeIs PyProof.Rows.slot_tuple_getitem.lookup ?_ (by with_unfolding_all rfl)
    rcases hr with ⟨rfl, q⟩ | ⟨rfl, q⟩
    · exact getItem_one ht (Heap.IsSliceOf.new _ vl vu vs) pl pu ps ⟨.ref a, _, I5, rfl, q⟩ (by rw [List.size_toArray]; omega)
    · refine getItem_rev ht (Heap.IsSliceOf.new _ vl vu vs) pl pu ps ?_ (by rw [List.size_toArray]; omega)
      refine ⟨.ref _, _, I5.laid (t' := s4.toks) (o := .tup xs.reverse) (fun b ob z => Heap.get?_push_of_some _ z) (Nat.le_refl _) ?_, rfl, q _ (I5.hok.fresh (Nat.le_refl _))⟩
      exact ⟨by rw [List.length_reverse]; exact hz, _, r.reverse, IsTup.new _ _⟩
end
/-! as data -/
def stepD : D → D → PD → MS → Prop
  | .tup ds, .int k, R, M => (k = 1 ∧ R (.tup ds) M) ∨ (k = -1 ∧ R (.tup ds.reverse) M)
  | _, _, _, _ => False
def dStep (te ts : DTE) : DTE := fun ρ R E M => te ρ (fun d M1 => ts ρ (fun k M2 => stepD d k R M2) E M1) E M
theorem de_step {X : Cx} {W : WX} {e st : Expr} {te ts : DTE} {p3 pos : Pos} (he : DE X W e te) (hs : DE X W st ts) : DE X W (.Subscript e (.Slice none none (some st) p3) pos) (dStep te ts) :=
  imp (pe_stepA he hs) fun σ H Q ⟨z, ρ, M, R, E, hs, hm, h, hc, hE⟩ =>
    ⟨z, ρ, M, _, E, hs, hm, h, fun d M1 v H1 h1 m1 r1 e1 => ⟨z, ρ, M1, _, E, hs.ext e1, m1, h1, fun k M2 w H2 h2 m2 r2 e2 => by
      have h2 : stepD d k R M2 := h2
      have r1' := e2 _ _ r1
      unfold stepD at h2
      split at h2
      · cases r2
        cases r1' with
        | tup s ra =>
          refine ⟨_, _, _, rfl, rfl, s, ?_⟩
          rcases h2 with ⟨ek, q⟩ | ⟨ek, q⟩
          · exact .inl ⟨ek, hc _ _ _ _ q m2 (.tup s ra) (e1.trans e2)⟩
          · exact .inr ⟨ek, fun p hp => hc _ _ _ _ q (relM_new m2 hp) (.tup (SqT.of upd_same) ((ext_new m2 hp).all ra.reverse)) ((e1.trans e2).trans (ext_new m2 hp))⟩
      · exact h2.elim, hE.ext e1⟩, hE⟩
section
variable {ρ : Sl} {R : PD} {E : XP} {M : MS} {te ts : DTE}
theorem v_step : dStep te ts ρ R E M = te ρ (fun d M1 => ts ρ (fun k M2 => stepD d k R M2) E M1) E M := (rfl)
end
end L2.DL
/-! DLzb: the law's end with the script's sizes -/
namespace L2.DL
open PySem PySem.Spec PyProof.Rows
variable [Tbs]
def gLawB (g : G) : Prop := ∀ ns : List Int, ns.length ≤ 63 → (∀ k, k ∈ ns → Builtin.Int.intBits k ≤ 1048576) → g [.scr ns] (fun d _ => d = .bl true) (fun _ _ => False) (fun _ => none)
theorem law_endB {P : Program} {w : World} {K : PySem.W.Frag} {mg mb : Str → Option Value} {k : Nat} {fa a : Addr} {fd : FuncData} {x : Str} {g : G} {s₁ : Shared} {vs : List Value} {ns : List Int}
    (KX : K.In s₁.heap) (hns : s₁.heap.Ns mainGlobals mg) (hb : s₁.heap.Ns builtinsNs mb) (hbb : ∀ x : Str, x ≠ "__name__" → mb x = bootBuiltins x) (hlim : s₁.heap.NoLimit) (hg : s₁.gens = #[])
    (ha : s₁.heap.get? a = some { cls := .type "list", data := .seq vs.toArray }) (hi : IntsAre vs ns) (hl : ns.length ≤ 63) (hr : Room k callerA)
    (F : ∀ base : Heap, K.In base → base.Ns mainGlobals mg → FnD P w K mg base k fa fd [x] g) (hbind : ∀ (s : Shared) (u : Value), BindsTo s fd ⟨[u], []⟩ [(x, u)]) (hgl : g [.scr ns] (fun d _ => d = .bl true) (fun _ _ => False) (fun _ => none)) (hT : Tbs.T = []) :
    codeAny (model P w) callerA (.call (.ref fa) ⟨[.ref a], []⟩) (fun r s' => r = .ok (.ret (.bool true)) ∧ OldK s₁.heap s'.heap ∧ s'.os = s₁.os ∧ AllBare s'.gens) s₁ := by
  have hl2 : ns.length ≤ sizeLine := Nat.le_trans hl (by decide)
  have rv := vals_ints hi
  have lv := hi.length
  have main : ∀ H : Hp, Only H → Sc K H a (ns.map V.int) → HOk P w H s₁.heap → (∀ b, H b ≠ none → b = a) → (H a ≠ none → K.lookup a = none) →
      codeAny (model P w) callerA (.call (.ref fa) ⟨[.ref a], []⟩) (fun r s' => r = .ok (.ret (.bool true)) ∧ OldK s₁.heap s'.heap ∧ s'.os = s₁.os ∧ AllBare s'.gens) s₁ := by
    intro H hO hS hok hA hK
    have nd : ∀ {b : Addr} {o : Obj} {es : Array DictEntry} {ep : Nat}, s₁.heap.get? b = some o → o.data = .dict es ep → H b = none := by
      intro b o es ep e d
      by_cases q : H b = none
      · exact q
      · have e' := hA b q
        subst e'
        rw [ha] at e
        cases e
        exact (Data.noConfusion d)
    have toB : ∀ {b : Addr} {o : Obj}, s₁.heap.get? b = some o → H b = none → (hidT s₁.heap H).get? b = some o := fun e n => hidT_get e n
    have nsB : ∀ {b : Addr} {m : Str → Option Value}, s₁.heap.Ns b m → (hidT s₁.heap H).Ns b m := fun {b m} ⟨o, es, ep, e, d, r⟩ => ⟨o, es, ep, toB e (nd e d), d, r⟩
    have kB : K.In (hidT s₁.heap H) := by
      intro b o e
      refine toB (KX b o e) ?_
      by_cases q : H b = none
      · exact q
      · have e' := hA b q
        subst e'
        rw [hK q] at e; cases e
    have md : Mod K mg (hidT s₁.heap H) := ⟨kB, nsB hns, ⟨mb, nsB hb, hbb⟩, let ⟨mc, l1, l2⟩ := hlim; ⟨mc, nsB l1, l2⟩⟩
    have ev : Env0 P w K mg (hidT s₁.heap H) callerA [] s₁ H := ⟨rfl, md, fun b o e => of_hidT e, Nat.le_of_eq (hidT_size _ _), trivial, fun b hb => by simp [frs] at hb, hok, .of_eq hg⟩
    have sp : spD K g [.ref a] H (fun v _ => v = .bl true) (fun _ _ _ => False) := by
      refine ⟨fun _ => none, [.scr ns], fun _ => none, _, _, .cons (.scr hS) .nil, ⟨fun b mo e => by simp at e, fun b ws e => by simp at e, fun p hp => by rw [hT] at hp; cases hp⟩, hgl, ?_, ?_⟩
      · rintro d M' v H' rfl m r e
        cases r
        rfl
      · intro x M' cls d H' f
        exact f.elim
    refine codeAny_mono ((F _ kB (nsB hns)).run callerA [] s₁ H ⟨[.ref a], []⟩ [.ref a] [.ref a] _ _ hr rfl ev (hbind s₁ (.ref a)) (.cons rfl .nil) sp) fun r s' h => ?_
    cases r with
    | error e =>
      obtain ⟨_, _, _, _, _, _, _, _, _, _, _, _, f⟩ := h
      exact f.elim
    | ok fl =>
      cases fl with
      | next => exact h.elim
      | brk => exact h.elim
      | cont => exact h.elim
      | ret u =>
        obtain ⟨v, H', os, bare, un, hok', r', q⟩ := h
        have q' : v = .bl true := q
        subst q'
        obtain rfl : u = Value.bool true := r'
        refine ⟨rfl, OldK.of_keep fun b o e => ?_, os, bare⟩
        by_cases q : H b = none
        · exact un.keep b o e q (by simp [frs]) (by simp)
        · rcases hO b with z | ⟨ob, xs, z⟩
          · exact absurd z q
          · have z2 := un.frzs b ob _ z
            obtain ⟨e1, _⟩ := hok b _ z
            obtain ⟨e2, _⟩ := hok' b _ z2
            rw [e] at e1
            cases e1
            exact e2
  cases hk : K.lookup a with
  | some o =>
    have e := KX a o hk
    rw [ha] at e
    cases e
    exact main (fun _ => none) (fun _ => .inl rfl) (.inr ⟨_, vs.toArray, _, hk, rfl, rfl, rfl, by rw [List.size_toArray, lv]; exact hl2, by simpa using rv⟩) (fun b u z => by simp at z) (fun b z => absurd rfl z) fun z => absurd rfl z
  | none =>
    refine main (fun b => if b = a then some (.frz { cls := .type "list", data := .seq vs.toArray } (.lst (ns.map V.int))) else none) (fun b => ?_) (.inl ⟨{ cls := .type "list", data := .seq vs.toArray }, if_pos rfl⟩) (fun b u z => ?_) (fun b z => ?_) fun _ => hk
    · by_cases hb : b = a
      · exact .inr ⟨_, _, if_pos hb⟩
      · exact .inl (if_neg hb)
    · by_cases hb : b = a
      · subst hb
        have z' := (if_pos rfl).symm.trans z
        cases z'
        exact ⟨ha, by rw [List.length_map]; exact hl2, vs, _, rv, ha⟩
      · have z' := (if_neg hb).symm.trans z
        cases z'
    · by_cases hb : b = a
      · exact hb
      · exact absurd (if_neg hb) z
theorem walkDB {l : PySem.W.OpenLaw} {k : Nat} {q : Program} {loose : List Str} {XP : (Str → Option Value) → Heap → Prop} {YP : World → Heap → Prop} {d : DefRec} {K : Params → PySem.W.Frag} {g : G} {x : Str}
    (hn : l.most = some 63) (hdf : d.params.defaults = []) (hr : Room k callerA) (hY : ∀ (w : World) (h : Heap), YP w h → (K w.params).In h)
    (F : ∀ (w : World) (mg : Str → Option Value) (fa : Addr) (h : Heap), (K w.params).In h → h.Ns mainGlobals mg → mg d.name = some (.ref fa) →
      ∃ fd : FuncData, (∀ (s : Shared) (u : Value), BindsTo s fd ⟨[u], []⟩ [(x, u)]) ∧
        ∀ base : Heap, (K w.params).In base → base.Ns mainGlobals mg → FnD l.prog w (K w.params) mg base k fa fd [x] g) (hgl : gLawB g) (hT : Tbs.T = [] := by rfl) :
    PySem.W.WalkO q loose XP YP l.row.toRowW d [] (fun f vs => PySem.call f vs) := by
  refine Att.attach_callB hn hdf fun w s₀ s₁ mg mb fa o pm cd doc a vs ns G Y ho hd hcd hmg hobj hints hlen hbits hg => ?_
  obtain ⟨fd, hb, hF⟩ := F w mg fa _ (hY w _ Y) G.T.g hmg
  exact law_endB (hY w _ Y) G.T.g G.T.b G.T.builtins G.T.nolimit hg hobj hints hlen hr hF hb (hgl ns hlen hbits) hT
end L2.DL
/-! DLzc: a number of any size times a small one -/
namespace L2.DL
open PySem PySem.Spec PyProof.Rows
variable [Tbs]
def mulSD : D → D → PD → MS → Prop
  | .int i, .int j, R, M => (-(2 ^ 64) < j ∧ j < 2 ^ 64) ∧ R (.int (i * j)) M
  | _, _, _, _ => False
theorem o_mulS {X : Cx} : OpD X (binaryOp .Mult) mulSD := by
  refine ⟨_, L2.op_mul, fun z H M x y vx vy R Q m rx ry h hc => ?_⟩
  unfold mulSD at h
  split at h
  · cases rx; cases ry
    exact ⟨_, _, rfl, rfl, .inr h.1, hc.here h.2 m (.int _)⟩
  · exact h.elim
section
variable {M : MS} {R : PD} {i j : Int}
theorem q_mulS : mulSD (.int i) (.int j) R M = ((-(2 ^ 64) < j ∧ j < 2 ^ 64) ∧ R (.int (i * j)) M) := (rfl)
end
end L2.DL
/-! DLzd: exceptions over data: raise, try, isinstance and fields of the one that is caught -/
namespace L2
open PySem PySem.Spec PyProof.Rows
/-! ### __init__ of one or two fields -/
/-- what __init__ leaves -/
def spI (C : Addr) (ps : List Str) : Sp := fun vs H Q _ => ∃ a ws, vs = V.ref a :: ws ∧ ws.length = ps.length ∧ H a = some (exo a C none) ∧ ∀ dx, H dx = none → dx ≠ a → Q .non (upd (upd H dx (exd dx (ps.zip ws).reverse)) a (exo a C (some dx)))
theorem sp_len {C : Addr} {ps : List Str} : ∀ vs H Q E, spI C ps vs H Q E → vs.length = ("self" :: ps : List Str).length := by
  rintro vs H Q E ⟨a, ws, rfl, h, _⟩
  rw [List.length_cons, List.length_cons, h]
theorem init1 {K : PySem.W.Frag} {C : Addr} {T : List Value} {newId : String} {f : Str} {N : List Str} (O : Ow K C T newId) (hno : PySem.W.findIn K (.ref C) f = some none) {vs : List V} {H : Hp} {Q : VK} {E : XK} (h : spI C [f] vs H Q E) :
    tSeq (tDrop (tBI K T newId (tCons (tVar 0) tNil))) (tFldX K T newId f (tVar 0) (tVar 1)) { nx := fun _ H' => Q .non H', rt := Q } (start ("self" :: f :: N) vs) H := by
  obtain ⟨a, ws, rfl, hl, e, q⟩ := h
  match ws, hl with
  | [w], _ =>
    refine ⟨.ref a, rfl, a, C, [], rfl, by decide, O, e, ?_⟩
    refine ⟨w, rfl, .ref a, rfl, a, C, rfl, O, hno, .inl ⟨e, fun dx n ne => q dx n ne⟩⟩
theorem init2 {K : PySem.W.Frag} {C : Addr} {T : List Value} {newId : String} {f g : Str} {N : List Str} (O : Ow K C T newId) (hno : PySem.W.findIn K (.ref C) f = some none) (hno2 : PySem.W.findIn K (.ref C) g = some none) {vs : List V} {H : Hp} {Q : VK} {E : XK} (h : spI C [f, g] vs H Q E) :
    tSeq (tDrop (tBI K T newId (tCons (tVar 0) tNil))) (tSeq (tFldX K T newId f (tVar 0) (tVar 1)) (tFldX K T newId g (tVar 0) (tVar 2))) { nx := fun _ H' => Q .non H', rt := Q } (start ("self" :: f :: g :: N) vs) H := by
  obtain ⟨a, ws, rfl, hl, e, q⟩ := h
  match ws, hl with
  | [w, u], _ =>
    refine ⟨.ref a, rfl, a, C, [], rfl, by decide, O, e, ?_⟩
    refine ⟨w, rfl, .ref a, rfl, a, C, rfl, O, hno, .inl ⟨e, fun dx n ne => ?_⟩⟩
    refine ⟨u, rfl, .ref a, rfl, a, C, rfl, O, hno2, .inr ⟨dx, [(f, w)], upd_same, by rw [upd_ne ne]; exact upd_same, by show (1 : Nat) ≤ 900; decide, ?_⟩⟩
    have e2 : upd (upd (upd H dx (exd dx [(f, w)])) a (exo a C (some dx))) dx (exd dx [(g, u), (f, w)]) = upd (upd H dx (exd dx [(g, u), (f, w)])) a (exo a C (some dx)) := by
      funext b
      by_cases hb : b = dx
      · subst hb; rw [upd_same, upd_ne ne, upd_same]
      · rw [upd_ne hb]
        by_cases ha : b = a
        · subst ha; rw [upd_same, upd_same]
        · rw [upd_ne ha, upd_ne ha, upd_ne hb, upd_ne hb]
    show Q .non _
    rw [e2]
    exact q dx n ne
/-! ### isinstance of the one that is caught -/
def rIsX (K : PySem.W.Frag) (D a dd : Addr) : List V → Hp → VK → Prop := fun xs H Q => ∃ c, xs = [V.ref a, c] ∧ (∃ fs, H dd = some (.xd fs)) ∧
  ((∃ cv b, (∀ u, RelV c u → u = cv) ∧ PySem.W.kitOne K (.ref D) cv = some b ∧ Q (.bl b) H) ∨
    ∃ p cs cvs b, c = .ref p ∧ H p = some (.tup cs) ∧ (∀ us, Vals cs us → us = cvs) ∧ PySem.W.kitAny K (.ref D) cvs = some b ∧ Q (.bl b) H)
theorem call_isX {X : Cx} {a D dd : Addr} {oe : Obj} {pn : List (Addr × Obj)} (C : ExcC X.K D) (hz : Zc (.ref D) (some dd) oe) (hf : ∃ vs, oe.data = .fields vs) : CallR (X.suite a ((a, oe) :: pn)) (.builtin "isinstance") (rIsX X.K D a dd) := by
  intro pins s σ H xs us Q I r h
  obtain ⟨c, rfl, ⟨fs, ed⟩, h⟩ := h
  cases r with
  | cons rx rr =>
    cases rr with
    | cons rt rr =>
      cases rr
      cases rx
      obtain ⟨hget, _⟩ := I.pin (a, oe) (List.mem_append.mpr (.inl List.mem_cons_self))
      obtain ⟨vs, hv⟩ := hf
      have hx : ObjOk X.prog X.w H s.heap dd (.xd fs) := I.hok dd _ ed
      obtain ⟨mA, hns, hr⟩ := hx
      obtain ⟨od, ho, _⟩ := lookIn_ns hns
      have J : PySem.W.InstAt s.heap a oe D (some od) := ⟨hget, hz.1, by unfold PySem.W.notCls; rw [hv] <;> rfl, by rw [hz.2]; exact ho⟩
      have hcl : (PySem.W.clsIn X.K D).isSome = true := by
        obtain ⟨cd, hc, _⟩ := PySem.W.any_some C.hd
        rw [hc]; rfl
      have Z : PySem.W.KitX X.K (.ref a) (.ref D) (fun h => PySem.W.InstAt h a oe D (some od)) := PySem.W.kitx_exc hcl C.hg C.hk C.hs C.ha C.hn C.ht C.hm
      rcases h with ⟨cv, b, hcv, e, q⟩ | ⟨p, cs, cvs, b, rfl, hp, hcv, e, q⟩
      · have ec := hcv _ rt
        subst ec
        exact PySem.W.kia_one Z I.kIn J e (fun z => nomatch z) fun tk => ⟨.bl b, H, I.kept (t' := tk) fun _ _ z => z, rfl, q⟩
      · cases rt
        have ht : ObjOk X.prog X.w H s.heap p (.tup cs) := I.hok p _ hp
        obtain ⟨hz2, us2, rv, o, eo, ec, n, edd⟩ := ht
        have := hcv _ rv
        subst this
        obtain ⟨oc, od2, odt, osl⟩ := o
        dsimp only at ec edd
        subst ec edd
        exact PySem.W.kia_tup Z I.kIn J eo e (fun z => nomatch z) fun tk => ⟨.bl b, H, I.kept (t' := tk) fun _ _ z => z, rfl, q⟩
end L2

namespace L2.DL
open PySem PySem.Spec PyProof.Rows
variable [Tbs]
/-- an own exception class with an own __init__ of the fields ps -/
structure XInit (P : Program) (w : World) (K : PySem.W.Frag) (mg : Str → Option Value) (base : Heap) (name : Str) (ps : List Str) : Prop where
  ex : ∃ (C fI : Addr) (fd : FuncData) (T : List Value) (B newId initId : String), ExcBaseFacts B newId initId T ∧ Ow K C T newId ∧ mg name = some (.ref C) ∧ PySem.W.nsIn K mainGlobals name = some (some (.ref C)) ∧
    PySem.W.findIn K (.ref C) "__init__" = some (some (.ref fI)) ∧ PySem.W.typeIn K (.ref fI) = some (.type "function") ∧ Binds K fd ("self" :: ps) [] ∧ FnOk P w K mg base (L2.CX P w) 1 fI fd ("self" :: ps) (spI C ps)
section
variable {K : ZK} {H : Hp} {M : MS}
theorem relK_zip : ∀ {ps : List Str} {vs : List V} {ds : List D}, RelA K H M vs ds → RelK K H M (ps.zip vs) (ps.zip ds)
  | [], _, _, _ => by rw [List.zip_nil_left, List.zip_nil_left]; exact .nil
  | _ :: _, _, _, .nil => .nil
  | p :: ps, _, _, .cons a b => .cons a (relK_zip b)
theorem RelK.append {κ : Type} : ∀ {a b : List (κ × V)} {c d : List (κ × D)}, RelK K H M a c → RelK K H M b d → RelK K H M (a ++ b) (c ++ d)
  | _, _, _, _, .nil, s => s
  | _, _, _, _, .cons r t, s => .cons r (RelK.append t s)
theorem RelK.rev {κ : Type} : ∀ {a : List (κ × V)} {c : List (κ × D)}, RelK K H M a c → RelK K H M a.reverse c.reverse
  | _, _, .nil => .nil
  | _, _, .cons r t => by
    rw [List.reverse_cons, List.reverse_cons]
    exact (RelK.rev t).append (.cons r .nil)
theorem RelK.look : ∀ {a : List (Str × V)} {c : List (Str × D)} {f : Str} {d : D}, RelK K H M a c → c.lookup f = some d → ∃ v, a.lookup f = some v ∧ Rel K H M v d
  | _, _, _, _, .nil, e => by cases e
  | _, _, f, d, .cons (k := k) r t, e => by
    rw [List.lookup_cons] at e ⊢
    split at e
    · cases e
      exact ⟨_, rfl, r⟩
    · exact RelK.look t e
end
section
variable {X : Cx} {W : WX} {e : Expr} {es : List Expr} {t : DTA} {name : Str} {ps : List Str} {p pos pos2 : Pos}
/-- raise C(e, ..) -/
def dRaise (name : Str) (ps : List Str) (t : DTA) : DTS := fun De ρ M => t ρ (fun ds M1 => ds.length = ps.length ∧ De.ex ⟨name, (ps.zip ds).reverse⟩ ρ M1) De.ex M
theorem ds_raise (x : XInit X.prog X.w X.K X.mg X.base name ps) (hc : X.calm = true) (hr : Room 2 X.A) (tk : Takes X W) (ha : DA X W (e :: es) t) (hps : ps.length ≤ 900 := by decide) (hg : Gl X name := by rfl)
    (hdb : (name == ("__debug__" : Str)) = false := by decide) (he : starEach (e :: es) X.env = (false, eval e X.env) :: starEach es X.env := by rfl) (hpl : (backTo pos (starEach es X.env)).any (·.1) = false := by rfl) :
    DS X W (.Raise (some (.Call (.Name name p) (e :: es) [] pos)) none pos2) (dRaise name ps t) := by
  obtain ⟨C, fI, fd, T, B, newId, initId, G, O, hm, hns, iC, tI, hb, F1⟩ := x.ex
  refine impS (ps_raise hc tk (pmk_ownX (ds := []) (dvs := []) G O iC tI F1 hr hb .nil (fun _ _ _ _ _ _ _ h => by
    obtain ⟨_, _, _, _, _, _, _, _, _, _, _, _, z⟩ := h
    exact z.elim) hg hm ha hdb he hpl)) fun De σ H ⟨z, ρ, M, Dd, hs, hm2, h, L⟩ => ?_
  refine ⟨z, ρ, M, _, _, hs, hm2, h, fun ds M1 vs H1 h1 m1 r1 e1 => ?_, L.ex⟩
  obtain ⟨hl, hx⟩ := h1
  have hv : vs.length = ps.length := r1.length.trans hl
  refine ⟨by omega, fun a ha => ⟨a, vs ++ [], rfl, by rw [List.append_nil]; exact hv, upd_same, fun dx hdx hne => ⟨rfl, dx, (ps.zip (vs ++ [])).reverse, upd_same, by rw [upd_ne hne]; exact upd_same, ?_, ?_⟩⟩⟩
  · rw [upd_ne hne] at hdx; exact hdx
  · rw [upd_ne hne] at hdx
    have eH : upd (del (upd (upd (upd H1 a (exo a C none)) dx (exd dx (ps.zip (vs ++ [])).reverse)) a (exo a C (some dx))) a) dx (.xd (ps.zip (vs ++ [])).reverse) = upd H1 dx (.xd (ps.zip (vs ++ [])).reverse) := by
      funext b
      by_cases hb : b = dx
      · subst hb; rw [upd_same, upd_same]
      · rw [upd_ne hb, upd_ne hb]
        by_cases hba : b = a
        · subst hba; rw [del_same, ha]
        · rw [del_ne hba, upd_ne hba, upd_ne hb, upd_ne hba]
    rw [eH, List.append_nil]
    exact L.ex _ ρ M1 _ _ _ _ hx (relM_new m1 hdx) (hs.ext (e1.trans (ext_new m1 hdx))) ⟨⟨C, rfl, hns⟩, dx, _, rfl, upd_same, m1.free hdx, ((ext_new m1 hdx).keys (relK_zip r1)).rev⟩ (e1.trans (ext_new m1 hdx))
end

/-- what the suite of an except clause says: C the class that came, a the exception, dx its dict -/
abbrev DTX := Str → Addr → Addr → DTS
def dTry (i : Nat) (Ds : List Str) (catches : Str → Bool) (t : DTS) (ts : DTX) : DTS := fun De ρ M =>
  t { nx := De.nx, rt := De.rt, bk := De.bk, ct := De.ct,
      ex := fun x ρ' M' => x.C ∈ Ds ∧ if catches x.C = true then ∀ a dx, M' a = none → M' dx = none → a ≠ dx →
          ts x.C a dx { nx := fun ρ2 M2 => De.nx (ρ2.set i none) M2, rt := De.rt, bk := fun ρ2 M2 => De.bk (ρ2.set i none) M2, ct := fun ρ2 M2 => De.ct (ρ2.set i none) M2 } (ρ'.set i (some (.ref a))) (um M' dx (.xd x.fs))
        else De.ex x ρ' M' } ρ M
theorem ext_xd {K : ZK} {H : Hp} {M : MS} {dx : Addr} {gs : List (Str × V)} {fs : List (Str × D)} (m : RelM K H M) (e : H dx = some (.xd gs)) (n : M dx = none) (r : RelK K H M gs fs) : Ext K H M H (um M dx (.xd fs)) ∧ RelM K H (um M dx (.xd fs)) := by
  have f : FoExt K H M K H (um M dx (.xd fs)) := fun q o ho s => by
    have ne : q ≠ dx := fun z => by
      have h := s.2
      rw [z, e] at h; cases h; cases ho
    exact ⟨⟨by rw [um_ne ne]; exact s.1.1, s.1.2⟩, s.2⟩
  have x : Ext K H M H (um M dx (.xd fs)) := Ext.of (fun _ _ s => s) f fun _ _ s => s
  refine ⟨x, fun a u q => ?_, fun a vs q => ?_, m.tab.mono f⟩
  · by_cases ha : a = dx
    · subst ha
      rw [um_same] at q
      cases q
      exact ⟨gs, e, x.keys r⟩
    · rw [um_ne ha] at q
      exact (m.at' a u q).ext x rfl
  · obtain ⟨q1, q2⟩ := m.hid a vs q
    have ne : a ≠ dx := fun z => by rw [z, e] at q2; cases q2
    exact ⟨by rw [um_ne ne]; exact q1, q2⟩
section
variable {X : Cx} {x n : Str} {c : Value} {i : Nat} {body suite : List Stmt} {b₀ : Stmt} {np pos pos' : Pos} {t : DTS} {ts : DTX} {Wout : WX} {Ds : List Str} {catches : Str → Bool}
theorem ds_try (i : Nat) (hN : X.N.Nodup) (hs : X.stack = X.env :: X.outer) (hf : X.env.frame = some X.env.locals) (tk : Takes X Wout) (hc : Names X x c)
    (hex : ∀ C ∈ Ds, ∀ aC, PySem.W.nsIn X.K mainGlobals C = some (some (.ref aC)) → PySem.W.exmOne X.K (.ref aC) c = some (catches C))
    (hb : ∀ (W : WX) (pn : List (Addr × Obj)) (xe : Value → Shared → Prop), Takes (X.tr pn xe) W → PassesOwn (model X.prog X.w) X.A X.env xe → DSs (X.tr pn xe) W body t)
    (hsu : ∀ (C : Str), C ∈ Ds → ∀ (aC a dx : Addr) (oe : Obj) (pn : List (Addr × Obj)), PySem.W.nsIn X.K mainGlobals C = some (some (.ref aC)) → Zc (.ref aC) (some dx) oe → (∃ vs, oe.data = .fields vs) → DSs (X.suite a ((a, oe) :: pn)) W0 (b₀ :: suite) (ts C a dx))
    (hi : X.N[i]? = some n := by rfl) (hln : X.env.kindOf n = some .local := by rfl) :
    DS X Wout (.Try body [.ExceptHandler (some (.Name x np)) (some n) (b₀ :: suite) pos'] [] [] pos) (dTry i Ds catches t ts) := by
  refine impS (ps_try_as (tb := fun W => liftS X.K W t) (ts := fun a cls d De σ H => ∃ C aC dx, C ∈ Ds ∧ cls = .ref aC ∧ PySem.W.nsIn X.K mainGlobals C = some (some (.ref aC)) ∧ d = some dx ∧ liftS X.K W0 (ts C a dx) De σ H) (Wout := Wout) hs hf hN hi hln hc tk hb
    fun a oe cls d pn hz hd => ⟨fun pins s σ H De I h => ?_⟩) fun De σ H h => ?_
  · obtain ⟨C, aC, dx, hC, rfl, hns, rfl, h⟩ := h
    exact (hsu C hC aC a dx oe pn hns hz hd).run pins s σ H De I h
  · obtain ⟨z, ρ, M, Dd, hs2, hm, h, L⟩ := h
    refine ⟨z, ρ, M, _, hs2, hm, h, L.nx, L.rt, L.bk, L.ct, ?_⟩
    rintro y ρ' M' cls d σ' H' ⟨hC, q⟩ m' s' rx e'
    obtain ⟨⟨aC, rfl, hns⟩, dx, gs, rfl, hdx, hMdx, rk⟩ := rx
    refine ⟨catches y.C, hex _ hC aC hns, fun hb1 a ha => ?_, fun hb1 => ?_⟩
    · rw [if_pos hb1] at q
      obtain ⟨e2, m2⟩ := ext_xd m' hdx hMdx rk
      have ne : a ≠ dx := fun w => by rw [w, hdx] at ha; cases ha
      have L2 := L.ext (e'.trans e2)
      refine ⟨y.C, aC, dx, hC, rfl, hns, rfl, z, _, _, _, (s'.ext e2).set i (.ref a), m2, q a dx (m'.free ha) hMdx ne, ?_, L2.rt, ?_, ?_, fun _ _ _ _ _ _ _ w => w.elim⟩
      · exact fun ρ2 M2 σ2 H2 w m s ee => L2.nx _ _ _ _ w m (s.clear i) ee
      · exact fun ρ2 M2 σ2 H2 w m s ee => L2.bk _ _ _ _ w m (s.clear i) ee
      · exact fun ρ2 M2 σ2 H2 w m s ee => L2.ct _ _ _ _ w m (s.clear i) ee
    · rw [if_neg (by rw [hb1]; exact Bool.false_ne_true)] at q
      exact L.ex _ _ _ _ _ _ _ q m' s' ⟨⟨aC, rfl, hns⟩, dx, gs, rfl, hdx, hMdx, rk⟩ e'
end

/-! ### in the suite -/
def vOf : Value → V
  | .ref a => .ref a
  | .type n => .ty n
  | _ => .non
/-- classes by their names -/
inductive TN (X : Cx) : List Expr → List (Str × Value) → Prop
  | nil : TN X [] []
  | cons {x : Str} {u : Value} {pos : Pos} {es : List Expr} {l : List (Str × Value)} (hg : Gl X x) (hm : X.mg x = some u ∨ (X.mg x = none ∧ bootBuiltins x = some u ∧ x ≠ "__name__")) (hu : RelV (vOf u) u) (hd : (x == ("__debug__" : Str)) = false) (r : TN X es l)
      (he : starEach (.Name x pos :: es) X.env = (false, eval (.Name x pos) X.env) :: starEach es X.env) : TN X (.Name x pos :: es) ((x, u) :: l)
theorem tn_pe {X : Cx} {x : Str} {u : Value} {pos : Pos} (hg : Gl X x) (hm : X.mg x = some u ∨ (X.mg x = none ∧ bootBuiltins x = some u ∧ x ≠ "__name__")) (hu : RelV (vOf u) u) (hd : (x == ("__debug__" : Str)) = false) : PE X (.Name x pos) (tC (vOf u)) := by
  rcases hm with hm | ⟨hm, hv, hn⟩
  · exact pe_glob hg hm hu hd
  · exact pe_bltn hg hm hv hu hn hd
def tNames (vs : List V) : TA := fun _ H Q => Q vs H
theorem TN.pa {X : Cx} : ∀ {es : List Expr} {l : List (Str × Value)}, TN X es l → PA X es (tNames (l.map fun y => vOf y.2))
  | _, _, .nil => ⟨fun pos pins s σ H Q I h => pa_nil.run pos pins s σ H Q I h⟩
  | _, _, .cons hg hm hu hd r he => ⟨fun pos pins s σ H Q I h => (pa_cons (tn_pe hg hm hu hd) (TN.pa r) he).run pos pins s σ H Q I h⟩
theorem vOf_one {u v : Value} (h : RelV (vOf u) u) (k : RelV (vOf u) v) : v = u := by
  cases u with
  | ref a => cases k; rfl
  | type n => cases k; rfl
  | none => cases k; rfl
  | _ => cases h
theorem TN.rel {X : Cx} : ∀ {es : List Expr} {l : List (Str × Value)}, TN X es l → ∀ us, Vals (l.map fun y => vOf y.2) us → us = l.map (·.2)
  | _, _, .nil, us, h => by cases h; rfl
  | _, _, .cons hg hm hu hd r he, us, h => by
    cases h with
    | cons a b => rw [TN.rel r _ b, vOf_one hu a]; rfl
section
variable {X : Cx} {W : WX} {a dx aC : Addr} {oe : Obj} {pn : List (Addr × Obj)} {C x n : Str} {i : Nat} {pos p p2 p3 : Pos}
/-- isinstance(e, c), isinstance(e, (c, ..)): b what it says of the class C -/
def dIsX (a dx : Addr) (b : Bool) (i : Nat) : DTE := fun ρ R _ M => sl ρ i = some (.ref a) ∧ (∃ fs, M dx = some (.xd fs)) ∧ R (.bl b) M
theorem de_isX {b : Bool} {u : Value} (i : Nat) (hm : X.mg "isinstance" = none) (hz : Zc (.ref aC) (some dx) oe) (hf : ∃ vs, oe.data = .fields vs) (E : ExcC X.K aC) (hk : PySem.W.kitOne X.K (.ref aC) u = some b)
    (hx : X.mg x = some u ∨ (X.mg x = none ∧ bootBuiltins x = some u ∧ x ≠ "__name__")) (hu : RelV (vOf u) u) (hg : Gl X x := by rfl) (hd : (x == ("__debug__" : Str)) = false := by decide)
    (hN : X.N[i]? = some n := by rfl) (hv : Vis X.env.scope n := by first | exact Or.inl rfl | exact Or.inr (Or.inl rfl) | exact Or.inr (Or.inr rfl)) (hgi : Gl X "isinstance" := by rfl)
    (hd1 : (n == ("__debug__" : Str)) = false := by decide) (hcd : (n == ("__classdict__" : Str)) = false := by decide) (hb : bootBuiltins "isinstance" = some (.builtin "isinstance") := by exact bt_isinstance)
    (s1 : starEach [.Name n p2, .Name x p3] X.env = (false, eval (.Name n p2) X.env) :: starEach [.Name x p3] X.env := by rfl) (s2 : starEach [.Name x p3] X.env = (false, eval (.Name x p3) X.env) :: starEach [] X.env := by rfl) (hpl : (backTo pos (starEach [.Name x p3] X.env)).any (·.1) = false := by rfl) :
    DE (X.suite a ((a, oe) :: pn)) W (.Call (.Name "isinstance" p) [.Name n p2, .Name x p3] [] pos) (dIsX a dx b i) := by
  refine ⟨fun pins s σ H Q I ⟨z, ρ, M, R, _, hs, hm2, ⟨hsl, ⟨fs, hdx⟩, h⟩, hc, _⟩ => ?_⟩
  have pe := pe_callB (X := X.suite a ((a, oe) :: pn)) (p := p) (pos := pos) (call_isX (X := X) (pn := pn) (a := a) E hz hf) hgi hm hb (pa_cons (pe_var (i := i) hN hv hd1 hcd) (pa_cons (tn_pe (X := X.suite a ((a, oe) :: pn)) hg hx hu hd) pa_nil s2) s1) (by decide) (by decide) s1 hpl
  refine pe.run pins s σ H Q I ?_
  obtain ⟨v, e1, r1⟩ := hs.2 i _ (sl_get hsl)
  cases r1
  obtain ⟨gs, eh, _⟩ := hm2.at' _ _ hdx
  exact ⟨_, e1, _, rfl, ⟨gs, eh⟩, .inl ⟨u, b, fun w k => vOf_one hu k, hk, hc.here h hm2 (.bl _)⟩⟩
theorem de_isXT {b : Bool} {es : List Expr} {l : List (Str × Value)} {x1 : Nat} (i : Nat) (hm : X.mg "isinstance" = none) (hz : Zc (.ref aC) (some dx) oe) (hf : ∃ vs, oe.data = .fields vs) (E : ExcC X.K aC) (tn : TN (X.suite a ((a, oe) :: pn)) es l) (hk : PySem.W.kitAny X.K (.ref aC) (l.map (·.2)) = some b)
    (hz1 : l.length ≤ sizeLine := by decide) (hN : X.N[i]? = some n := by rfl) (hv : Vis X.env.scope n := by first | exact Or.inl rfl | exact Or.inr (Or.inl rfl) | exact Or.inr (Or.inr rfl)) (hgi : Gl X "isinstance" := by rfl)
    (hd1 : (n == ("__debug__" : Str)) = false := by decide) (hcd : (n == ("__classdict__" : Str)) = false := by decide) (hb : bootBuiltins "isinstance" = some (.builtin "isinstance") := by exact bt_isinstance)
    (s1 : starEach [.Name n p2, .Tuple es x1 p3] X.env = (false, eval (.Name n p2) X.env) :: starEach [.Tuple es x1 p3] X.env := by rfl) (s2 : starEach [.Tuple es x1 p3] X.env = (false, eval (.Tuple es x1 p3) X.env) :: starEach [] X.env := by rfl) (hpl : (backTo pos (starEach [.Tuple es x1 p3] X.env)).any (·.1) = false := by rfl) :
    DE (X.suite a ((a, oe) :: pn)) W (.Call (.Name "isinstance" p) [.Name n p2, .Tuple es x1 p3] [] pos) (dIsX a dx b i) := by
  refine ⟨fun pins s σ H Q I ⟨z, ρ, M, R, _, hs, hm2, ⟨hsl, ⟨fs, hdx⟩, h⟩, hc, _⟩ => ?_⟩
  have pe := pe_callB (X := X.suite a ((a, oe) :: pn)) (p := p) (pos := pos) (call_isX (X := X) (pn := pn) (a := a) E hz hf) hgi hm hb (pa_cons (pe_var (i := i) hN hv hd1 hcd) (pa_cons (pe_tup tn.pa) pa_nil s2) s1) (by decide) (by decide) s1 hpl
  refine pe.run pins s σ H Q I ?_
  obtain ⟨v, e1, r1⟩ := hs.2 i _ (sl_get hsl)
  cases r1
  obtain ⟨gs, eh, _⟩ := hm2.at' _ _ hdx
  refine ⟨_, e1, by rw [List.length_map]; exact hz1, fun q hq => ⟨_, rfl, ⟨gs, ?_⟩, .inr ⟨q, _, _, b, rfl, upd_same, fun us k => tn.rel us k, hk, ?_⟩⟩⟩
  · rw [upd_ne (ne_of_none eh hq)]; exact eh
  · exact hc _ _ _ _ h (relM_new hm2 hq) (.bl _) (ext_new hm2 hq)
/-- e.f -/
def dFldX (a dx : Addr) (f : Str) (te : DTE) : DTE := fun ρ R E M => te ρ (fun d M1 => d = .ref a ∧ ∃ fs v, M1 dx = some (.xd fs) ∧ fs.lookup f = some v ∧ R v M1) E M
theorem de_fldX {f : Str} {e : Expr} {te : DTE} (T : XfC X.K aC) (hno : PySem.W.findIn X.K (.ref aC) f = some none) (hz : Zc (.ref aC) (some dx) oe) (hf : ∃ vs, oe.data = .fields vs)
    (he : DE (X.suite a ((a, oe) :: pn)) W e te) (hb : attributeBase e f X.env (eval e X.env) = eval e X.env := by rfl) :
    DE (X.suite a ((a, oe) :: pn)) W (.Attribute e f pos) (dFldX a dx f te) :=
  imp (pe_xf (X := X) (pn := pn) (pos := pos) T hno hz hf he hb) fun σ H Q ⟨z, ρ, M, R, E, hs, hm, h, hc, hE⟩ =>
    ⟨z, ρ, M, _, E, hs, hm, h, fun d M1 v H1 h1 m1 r1 e1 => by
      obtain ⟨rfl, fs, y, hd, hl, q⟩ := h1
      cases r1
      obtain ⟨gs, eh, rk⟩ := m1.at' _ _ hd
      obtain ⟨w, el, rw⟩ := rk.look hl
      exact ⟨rfl, rfl, dx, gs, w, rfl, eh, el, hc _ _ _ _ q m1 rw e1⟩, hE⟩
end
/-- a class by its name -/
def cvG (mg : Str → Option Value) (s : Str) : Value := (mg s).getD ((bootBuiltins s).getD .none)
def TnF (mg : Str → Option Value) (T : Str) : Prop := (mg T = some (cvG mg T) ∨ (mg T = none ∧ bootBuiltins T = some (cvG mg T) ∧ T ≠ "__name__")) ∧ RelV (vOf (cvG mg T)) (cvG mg T)
theorem tnF_own {mg : Str → Option Value} {T : Str} {a : Addr} (h : mg T = some (.ref a)) : TnF mg T := by
  have e : cvG mg T = .ref a := by unfold cvG; rw [h]; rfl
  unfold TnF
  rw [e]
  exact ⟨.inl h, rfl⟩
theorem tnF_blt {mg : Str → Option Value} {T : Str} {n : String} (h : mg T = none) (hb : bootBuiltins T = some (.type n)) (hn : T ≠ "__name__") : TnF mg T := by
  have e : cvG mg T = .type n := by unfold cvG; rw [h, hb]; rfl
  unfold TnF
  rw [e]
  exact ⟨.inr ⟨h, hb, hn⟩, rfl⟩
theorem cvG_own {mg : Str → Option Value} {T : Str} {a : Addr} (h : mg T = some (.ref a)) : cvG mg T = .ref a := by unfold cvG; rw [h]; rfl
theorem cvG_blt {mg : Str → Option Value} {T : Str} {v : Value} (h : mg T = none) (hb : bootBuiltins T = some v) : cvG mg T = v := by unfold cvG; rw [h, hb]; rfl
theorem kitAny_nil {K : PySem.W.Frag} {t : Value} {f : Str → Bool} : PySem.W.kitAny K t [] = some (([] : List Str).any f) := rfl
theorem kitAny_cons {K : PySem.W.Frag} {t u : Value} {us : List Value} {f : Str → Bool} {T : Str} {Ts : List Str} (h : PySem.W.kitOne K t u = some (f T)) (r : PySem.W.kitAny K t us = some (Ts.any f)) : PySem.W.kitAny K t (u :: us) = some ((T :: Ts).any f) := by
  rw [List.any_cons]
  unfold PySem.W.kitAny
  rw [h]
  cases e : f T with
  | true => rfl
  | false => exact r
theorem TnF.names {X : Cx} {T : Str} (h : TnF X.mg T) (hg : Gl X T) (hd : (T == ("__debug__" : Str)) = false) : Names X T (cvG X.mg T) := ⟨hg, hd, h.1⟩
/-- the statements of a class -/
def clsS (s : Stmt) (j : Nat) : Stmt := match s with
  | .ClassDef (body := b) .. => b.getD j (.Pass ⟨0, 0, 0, 0⟩)
  | _ => .Pass ⟨0, 0, 0, 0⟩
theorem v_raise {name : Str} {ps : List Str} {t : DTA} {De : DEnds} {ρ : Sl} {M : MS} : dRaise name ps t De ρ M = t ρ (fun ds M1 => ds.length = ps.length ∧ De.ex ⟨name, (ps.zip ds).reverse⟩ ρ M1) De.ex M := by (rfl)
theorem v_isX {a dx : Addr} {b : Bool} {i : Nat} {ρ : Sl} {R : PD} {E : XP} {M : MS} : dIsX a dx b i ρ R E M = (sl ρ i = some (.ref a) ∧ (∃ fs, M dx = some (.xd fs)) ∧ R (.bl b) M) := by (rfl)
theorem v_fldX {a dx : Addr} {f : Str} {te : DTE} {ρ : Sl} {R : PD} {E : XP} {M : MS} : dFldX a dx f te ρ R E M = te ρ (fun d M1 => d = .ref a ∧ ∃ fs v, M1 dx = some (.xd fs) ∧ fs.lookup f = some v ∧ R v M1) E M := by (rfl)
theorem v_try {i : Nat} {Ds : List Str} {catches : Str → Bool} {t : DTS} {ts : DTX} {De : DEnds} {ρ : Sl} {M : MS} : dTry i Ds catches t ts De ρ M =
  t { nx := De.nx, rt := De.rt, bk := De.bk, ct := De.ct,
      ex := fun x ρ' M' => x.C ∈ Ds ∧ if catches x.C = true then ∀ a dx, M' a = none → M' dx = none → a ≠ dx →
          ts x.C a dx { nx := fun ρ2 M2 => De.nx (ρ2.set i none) M2, rt := De.rt, bk := fun ρ2 M2 => De.bk (ρ2.set i none) M2, ct := fun ρ2 M2 => De.ct (ρ2.set i none) M2 } (ρ'.set i (some (.ref a))) (um M' dx (.xd x.fs))
        else De.ex x ρ' M' } ρ M := by (rfl)
end L2.DL
/-! DLze: list(range(..)); chains of three -/
namespace L2
open PySem PySem.Spec PyProof.Rows
section
variable {X : Cx} {a b c d : Expr} {ta tb tc td : TE} {pos : Pos}
/-- a op1 b op2 c op3 d -/
def tChain3 (r r' r2 : R2) (ta tb tc td : TE) : TE := fun σ H Q => ta σ H fun x H1 => tb σ H1 fun y H2 => r x y H2 fun z H3 => ∃ k, z = .bl k ∧
  (if k = true then tc σ H3 fun w' H4 => r' y w' H4 fun z2 H5 => ∃ k2, z2 = .bl k2 ∧ (if k2 = true then td σ H5 fun u' H6 => r2 w' u' H6 Q else Q (.bl false) H5) else Q (.bl false) H3)
theorem pe_chain3 {op op' op2 : CmpOp} {r r' r2 : R2} (ho : OpR X (compareOp op) r) (ho' : OpR X (compareOp op') r') (ho2 : OpR X (compareOp op2) r2) (ha : PE X a ta) (hb : PE X b tb) (hc : PE X c tc) (hd : PE X d td)
    (hm : lastMarks [op, op', op2] [b, c, d] = false := by with_unfolding_all rfl) : PE X (.Compare a [op, op', op2] [b, c, d] pos) (tChain3 r r' r2 ta tb tc td) := by
  refine ⟨fun pins s σ H Q I h => ?_⟩
  refine Compare_chain (thn (ha.run pins s σ H _ I h) fun v s1 ⟨x, H1, I1, r1, q1⟩ => chain_link (thn (hb.run pins s1 σ H1 _ I1 q1) fun u s2 ⟨y, H2, I2, r2', q2⟩ =>
    thn (ho pins s2 σ H2 x y v u _ I2 r1 r2' q2) fun d' s3 ⟨z, H3, I3, r3, k, e, q3⟩ => ?_)) hm
  subst e
  cases r3
  refine wpAny_truthy_bool ?_
  cases k with
  | false => exact ite_ff ⟨.bl false, H3, I3, rfl, q3⟩
  | true =>
    refine ite_tt (chain_link (thn (hc.run pins s3 σ H3 _ I3 q3) fun w' s4 ⟨z', H4, I4, r4, q4⟩ => thn (ho' pins s4 σ H4 y z' u w' _ I4 r2' r4 q4) fun d2 s5 ⟨z2, H5, I5, r5, k2, e2, q5⟩ => ?_))
    subst e2
    cases r5
    refine wpAny_truthy_bool ?_
    cases k2 with
    | false => exact ite_ff ⟨.bl false, H5, I5, rfl, q5⟩
    | true => exact ite_tt (chain_last (thn (hd.run pins s5 σ H5 _ I5 q5) fun w2 s6 ⟨z6, H6, I6, r6, q6⟩ => ho2 pins s6 σ H6 z' z6 w' w2 Q I6 r4 r6 q6))
theorem pt_chain3 {op op' op2 : CmpOp} {r r' r2 : R2} (ho : OpR X (compareOp op) r) (ho' : OpR X (compareOp op') r') (ho2 : OpR X (compareOp op2) r2) (ha : PE X a ta) (hb : PE X b tb) (hc : PE X c tc) (hd : PE X d td)
    (hm : lastMarks [op, op', op2] [b, c, d] = false := by with_unfolding_all rfl) : PT X (.Compare a [op, op', op2] [b, c, d] pos) (tTest (tChain3 r r' r2 ta tb tc td)) := by
  refine ⟨fun pins s σ H Q I h => ?_⟩
  refine isTrue_chain (thn (ha.run pins s σ H _ I h) fun v s1 ⟨x, H1, I1, r1, q1⟩ => test_link (thn (hb.run pins s1 σ H1 _ I1 q1) fun u s2 ⟨y, H2, I2, r2', q2⟩ =>
    thn (ho pins s2 σ H2 x y v u _ I2 r1 r2' q2) fun d' s3 ⟨z, H3, I3, r3, k, e, q3⟩ => ?_)) hm
  subst e
  cases r3
  refine wpAny_truthy_bool ?_
  cases k with
  | false =>
    obtain ⟨k', e', q'⟩ := q3
    cases e'
    exact ite_ff ⟨H3, I3, q'⟩
  | true =>
    refine ite_tt (test_link (thn (hc.run pins s3 σ H3 _ I3 q3) fun w' s4 ⟨z', H4, I4, r4, q4⟩ => thn (ho' pins s4 σ H4 y z' u w' _ I4 r2' r4 q4) fun d2 s5 ⟨z2, H5, I5, r5, k2, e2, q5⟩ => ?_))
    subst e2
    cases r5
    refine wpAny_truthy_bool ?_
    cases k2 with
    | false =>
      obtain ⟨k', e', q'⟩ := q5
      cases e'
      exact ite_ff ⟨H5, I5, q'⟩
    | true =>
      refine ite_tt (test_last (thn (hd.run pins s5 σ H5 _ I5 q5) fun w2 s6 ⟨z6, H6, I6, r6, q6⟩ => thn (ho2 pins s6 σ H6 z' z6 w' w2 _ I6 r4 r6 q6) fun d3 s7 ⟨z7, H7, I7, r7, k3, e3, q7⟩ => ?_))
      subst e3
      cases r7
      exact wpAny_truthy_bool ⟨H7, I7, q7⟩
end
end L2
namespace L2.DL
open PySem PySem.Spec PyProof.Rows
variable [Tbs]
section
variable {X : Cx} {W : WX} {a b c e : Expr} {ta tb tc te : DTE} {p p2 pos pos2 : Pos}
theorem rgV_rel {K : ZK} {H : Hp} {M : MS} {i j : Int} : RelA K H M (rgV i j) (rng i (j - i).toNat) := by
  unfold rgV rng
  have : ∀ l : List Nat, RelA K H M (l.map fun k => V.int (i + (k : Nat))) (l.map fun (k : Nat) => D.int (i + k)) := by
    intro l
    induction l with
    | nil => exact .nil
    | cons k l ih => exact .cons (.int _) ih
  exact this _
def dLRng1 (ta : DTE) : DTE := fun ρ R E M => ta ρ (fun d M1 => match d with
  | .int j => (-(2 ^ 62) ≤ j ∧ j ≤ 16777216) ∧ R (.lst (rng 0 j.toNat)) M1
  | _ => False) E M
def dLRng2 (ta tb : DTE) : DTE := fun ρ R E M => ta ρ (fun d M1 => tb ρ (fun e M2 => match d, e with
  | .int i, .int j => ((-(2 ^ 62) ≤ i ∧ i ≤ 16777216) ∧ -(2 ^ 62) ≤ j ∧ j ≤ 16777216 ∧ j - i ≤ 16777216) ∧ R (.lst (rng i (j - i).toNat)) M2
  | _, _ => False) E M1) E M
theorem de_lrng1 (hc : X.calm = true) (hl : X.mg "list" = none) (hr : X.mg "range" = none) (ha : DE X W a ta) (hg : Gl X "list" := by rfl) (hg2 : Gl X "range" := by rfl)
    (na : starEach [a] X.env = (false, eval a X.env) :: starEach [] X.env := by rfl) (nb : starEach [.Call (.Name "range" p2) [a] [] pos2] X.env = (false, eval (.Call (.Name "range" p2) [a] [] pos2) X.env) :: starEach [] X.env := by rfl) :
    DE X W (.Call (.Name "list" p) [.Call (.Name "range" p2) [a] [] pos2] [] pos) (dLRng1 ta) :=
  imp (pe_listRg hc hg hl (prg_1 hg2 hr ha na) nb) fun σ H Q ⟨z, ρ, M, R, E, hs, hm, h, hk, hE⟩ =>
    ⟨z, ρ, M, _, E, hs, hm, h, fun d M1 v H1 h1 m1 r1 e1 => by
      cases d with
      | int j =>
        cases r1
        obtain ⟨⟨b1, b2⟩, q⟩ := h1
        refine ⟨j, rfl, ⟨by omega, by omega, by omega, by omega, by omega⟩, fun q' hq => ?_⟩
        refine hk _ _ _ _ q (relM_new m1 hq) (.lst (fz_new m1 hq) ?_) (e1.trans (ext_new m1 hq))
        have := rgV_rel (K := ⟨X.K, z⟩) (H := upd H1 q' (.lst (rgV 0 j))) (M := M1) (i := 0) (j := j)
        rw [Int.sub_zero] at this
        exact this
      | _ => exact (show False from h1).elim, hE⟩
theorem de_lrng2 (hc : X.calm = true) (hl : X.mg "list" = none) (hr : X.mg "range" = none) (ha : DE X W a ta) (hb : DE X W b tb) (hg : Gl X "list" := by rfl) (hg2 : Gl X "range" := by rfl)
    (na : starEach [a, b] X.env = (false, eval a X.env) :: starEach [b] X.env := by rfl) (nb : starEach [b] X.env = (false, eval b X.env) :: starEach [] X.env := by rfl) (hp : (backTo pos2 (starEach [b] X.env)).any (·.1) = false := by rfl)
    (nc : starEach [.Call (.Name "range" p2) [a, b] [] pos2] X.env = (false, eval (.Call (.Name "range" p2) [a, b] [] pos2) X.env) :: starEach [] X.env := by rfl) :
    DE X W (.Call (.Name "list" p) [.Call (.Name "range" p2) [a, b] [] pos2] [] pos) (dLRng2 ta tb) :=
  imp (pe_listRg hc hg hl (prg_2 hg2 hr ha hb na nb hp) nc) fun σ H Q ⟨z, ρ, M, R, E, hs, hm, h, hk, hE⟩ =>
    ⟨z, ρ, M, _, E, hs, hm, h, fun d M1 v H1 h1 m1 r1 e1 => ⟨z, ρ, M1, _, E, hs.ext e1, m1, h1, fun d2 M2 v2 H2 h2 m2 r2 e2 => by
      cases d with
      | int i =>
        cases d2 with
        | int j =>
          cases r1
          cases r2
          obtain ⟨⟨⟨b1, b2⟩, b3, b4, b5⟩, q⟩ := h2
          refine ⟨i, j, rfl, rfl, ⟨by omega, by omega, by omega, by omega, by omega⟩, fun q' hq => ?_⟩
          exact hk _ _ _ _ q (relM_new m2 hq) (.lst (fz_new m2 hq) rgV_rel) ((e1.trans e2).trans (ext_new m2 hq))
        | _ => exact (show False from h2).elim
      | _ => cases d2 <;> exact (show False from h2).elim, hE.ext e1⟩, hE⟩
/-- chains of three -/
def dChain3 (f g h : D → D → PD → MS → Prop) (ta tb tc td : DTE) : DTE := fun ρ R E M => ta ρ (fun x M1 => tb ρ (fun y M2 => f x y (fun z M3 => match z with
  | .bl k => if k = true then tc ρ (fun w M4 => g y w (fun z2 M5 => match z2 with
    | .bl k2 => if k2 = true then td ρ (fun u M6 => h w u R M6) E M5 else R (.bl false) M5
    | _ => False) M4) E M3 else R (.bl false) M3
  | _ => False) M2) E M1) E M
theorem de_chain3 {d : Expr} {td : DTE} {op op' op2 : CmpOp} {f g h : D → D → PD → MS → Prop} (o : OpD X (compareOp op) f) (o' : OpD X (compareOp op') g) (o2 : OpD X (compareOp op2) h) (ha : DE X W a ta) (hb : DE X W b tb) (hc : DE X W c tc) (hd : DE X W d td)
    (hm : lastMarks [op, op', op2] [b, c, d] = false := by with_unfolding_all rfl) : DE X W (.Compare a [op, op', op2] [b, c, d] pos) (dChain3 f g h ta tb tc td) := by
  obtain ⟨r, ho, ad⟩ := o
  obtain ⟨r', ho', ad'⟩ := o'
  obtain ⟨r2, ho2, ad2⟩ := o2
  exact imp (pe_chain3 ho ho' ho2 ha hb hc hd hm) fun σ H Q ⟨z, ρ, M, R, E, hs, hm, h, hk, hE⟩ =>
    ⟨z, ρ, M, _, E, hs, hm, h, fun x M1 vx H1 h1 m1 r1 e1 => ⟨z, ρ, M1, _, E, hs.ext e1, m1, h1, fun y M2 vy H2 h2 m2 r2 e2 => ad _ _ _ _ _ _ _ _ _ m2 (e2 _ _ r1) r2 h2 (fun d M3 v H3 h3 m3 r3 e3 => by
      have e123 := e1.trans (e2.trans e3)
      cases d with
      | bl k =>
        cases r3
        refine ⟨k, rfl, ?_⟩
        cases k with
        | true =>
          refine iteT ⟨z, ρ, M3, _, E, hs.ext e123, m3, ofT h3, fun w M4 vw H4 h4 m4 r4 e4 => ad' _ _ _ _ _ _ _ _ _ m4 ((e3.trans e4) _ _ r2) r4 h4 (fun d5 M5 v5 H5 h5 m5 r5 e5 => ?_), hE.ext e123⟩
          have e15 := e123.trans (e4.trans e5)
          cases d5 with
          | bl k2 =>
            cases r5
            refine ⟨k2, rfl, ?_⟩
            cases k2 with
            | true => exact iteT ⟨z, ρ, M5, _, E, hs.ext e15, m5, ofT h5, fun u M6 vu H6 h6 m6 r6 e6 => ad2 _ _ _ _ _ _ _ _ _ m6 ((e5.trans e6) _ _ r4) r6 h6 (hk.ext (e15.trans e6)), hE.ext e15⟩
            | false => exact iteF (hk _ _ _ _ (ofF h5) m5 (.bl _) e15)
          | _ => exact h5.elim
        | false => exact iteF (hk _ _ _ _ (ofF h3) m3 (.bl _) e123)
      | _ => exact h3.elim), hE.ext e1⟩, hE⟩
theorem dt_chain3 {d : Expr} {td : DTE} {op op' op2 : CmpOp} {f g h : D → D → PD → MS → Prop} (o : OpD X (compareOp op) f) (o' : OpD X (compareOp op') g) (o2 : OpD X (compareOp op2) h) (ha : DE X W a ta) (hb : DE X W b tb) (hc : DE X W c tc) (hd : DE X W d td)
    (hm : lastMarks [op, op', op2] [b, c, d] = false := by with_unfolding_all rfl) : DT X W (.Compare a [op, op', op2] [b, c, d] pos) (dTst (dChain3 f g h ta tb tc td)) := by
  obtain ⟨r, ho, ad⟩ := o
  obtain ⟨r', ho', ad'⟩ := o'
  obtain ⟨r2, ho2, ad2⟩ := o2
  exact impT (pt_chain3 ho ho' ho2 ha hb hc hd hm) fun σ H Q ⟨z, ρ, M, R, E, hs, hm, h, hk, hE⟩ =>
    ⟨z, ρ, M, _, E, hs, hm, h, fun x M1 vx H1 h1 m1 r1 e1 => ⟨z, ρ, M1, _, E, hs.ext e1, m1, h1, fun y M2 vy H2 h2 m2 r2 e2 => ad _ _ _ _ _ _ _ _ _ m2 (e2 _ _ r1) r2 h2 (fun d M3 v H3 h3 m3 r3 e3 => by
      have e123 := e1.trans (e2.trans e3)
      cases d with
      | bl k =>
        cases r3
        refine ⟨k, rfl, ?_⟩
        cases k with
        | true =>
          refine iteT ⟨z, ρ, M3, _, E, hs.ext e123, m3, ofT h3, fun w M4 vw H4 h4 m4 r4 e4 => ad' _ _ _ _ _ _ _ _ _ m4 ((e3.trans e4) _ _ r2) r4 h4 (fun d5 M5 v5 H5 h5 m5 r5 e5 => ?_), hE.ext e123⟩
          have e15 := e123.trans (e4.trans e5)
          cases d5 with
          | bl k2 =>
            cases r5
            refine ⟨k2, rfl, ?_⟩
            cases k2 with
            | true => exact iteT ⟨z, ρ, M5, _, E, hs.ext e15, m5, ofT h5, fun u M6 vu H6 h6 m6 r6 e6 => ad2 _ _ _ _ _ _ _ _ _ m6 ((e5.trans e6) _ _ r4) r6 h6 (fun d7 M7 v7 H7 h7 m7 r7 e7 => by
                cases d7 with
                | bl k7 => cases r7; exact ⟨k7, rfl, hk _ _ _ h7 m7 (e15.trans (e6.trans e7))⟩
                | _ => exact h7.elim), hE.ext e15⟩
            | false => exact iteF ⟨false, rfl, hk _ _ _ (ofF h5) m5 e15⟩
          | _ => exact h5.elim
        | false => exact iteF ⟨false, rfl, hk _ _ _ (ofF h3) m3 e123⟩
      | _ => exact h3.elim), hE.ext e1⟩, hE⟩
variable {ρ : Sl} {R : PD} {E : XP} {M : MS}
theorem v_chain3 {f g h : D → D → PD → MS → Prop} {td : DTE} : dChain3 f g h ta tb tc td ρ R E M = ta ρ (fun x M1 => tb ρ (fun y M2 => f x y (fun z M3 => match z with
  | .bl k => if k = true then tc ρ (fun w M4 => g y w (fun z2 M5 => match z2 with
    | .bl k2 => if k2 = true then td ρ (fun u M6 => h w u R M6) E M5 else R (.bl false) M5
    | _ => False) M4) E M3 else R (.bl false) M3
  | _ => False) M2) E M1) E M := by (rfl)
theorem v_lrng1 : dLRng1 ta ρ R E M = ta ρ (fun d M1 => match d with
  | .int j => (-(2 ^ 62) ≤ j ∧ j ≤ 16777216) ∧ R (.lst (rng 0 j.toNat)) M1
  | _ => False) E M := by (rfl)
theorem v_lrng2 : dLRng2 ta tb ρ R E M = ta ρ (fun d M1 => tb ρ (fun e M2 => match d, e with
  | .int i, .int j => ((-(2 ^ 62) ≤ i ∧ i ≤ 16777216) ∧ -(2 ^ 62) ≤ j ∧ j ≤ 16777216 ∧ j - i ≤ 16777216) ∧ R (.lst (rng i (j - i).toNat)) M2
  | _, _ => False) E M1) E M := by (rfl)
end
end L2.DL
/-! DLzf: min, max of a tuple of alike data -/
namespace L2
open PySem PySem.Spec PyProof.Rows
theorem vals_get {xs : List V} {us : List Value} (h : Vals xs us) : ∀ (i : Nat) (u : Value), us[i]? = some u → ∃ x, xs[i]? = some x ∧ RelV x u := by
  induction h with
  | nil => intro i u e; simp at e
  | cons r _ ih =>
    intro i u e
    cases i with
    | zero => exact ⟨_, rfl, by simpa using (Option.some.inj (show some _ = some u from e)) ▸ r⟩
    | succ i => exact ih i u (by simpa using e)
theorem dps_get {K : PySem.W.Frag} {H : Hp} : ∀ {xs : List V} {ds : List PyData}, DpAll K H xs ds → ∀ (i : Nat) (x : V), xs[i]? = some x → ∃ d, ds[i]? = some d ∧ Dp K H x d
  | _, _, .nil, _, _, e => by simp at e
  | _, _, .cons h _, 0, x, e => by
    have e := Option.some.inj (show some _ = some x from e)
    subst e
    exact ⟨_, rfl, h⟩
  | _, _, .cons _ hs, i + 1, x, e => dps_get hs i x (by simpa using e)
def rBestT (K : PySem.W.Frag) (f : PyData → List PyData → PyData) : List V → Hp → VK → Prop := fun vs H Q => ∃ a xs d ds, vs = [V.ref a] ∧ SqT K H a xs ∧ DpAll K H xs (d :: ds) ∧ PySem.W.AlikeAll (d :: ds) ∧ PyData.depthAll (d :: ds) ≤ 60 ∧
  ∀ (i : Nat) x, xs[i]? = some x → (d :: ds)[i]? = some (f d ds) → Q x H
section
variable {X : Cx}
theorem cr_minT (hc : X.calm = true) (hu : X.A.units + 64 < cLine) : CallR X (.builtin "min") (rBestT X.K PySem.W.minD) := by
  intro pins s σ H vs us Q I r h
  obtain ⟨a, xs, d, ds, rfl, hs, hd, al, hdp, q⟩ := h
  obtain ⟨its, rv, hl, _⟩ := I.tuple hs
  rw [Vals.ref1 r]
  obtain ⟨as, ra⟩ := Dp.readsAll I _ _ its hd rv
  refine PySem.W.min_tuple_data (I.ok.hd hc) hl (by simpa using ra) al (by omega) fun i v h' tk bs hi rd hk => ?_
  obtain ⟨x, ex, rx⟩ := vals_get rv i v (by simpa using hi)
  obtain ⟨e, ee, he⟩ := dps_get hd i x ex
  obtain ⟨cs, rr⟩ := Dp.reads I e x v he rx
  have := (Reads.unique (PySem.W.reads_keeps hk rr) _ _ rd).1
  exact ⟨x, H, I.kept hk, rx, q i x ex (by rw [ee, this])⟩
theorem cr_maxT (hc : X.calm = true) (hu : X.A.units + 64 < cLine) : CallR X (.builtin "max") (rBestT X.K PySem.W.maxD) := by
  intro pins s σ H vs us Q I r h
  obtain ⟨a, xs, d, ds, rfl, hs, hd, al, hdp, q⟩ := h
  obtain ⟨its, rv, hl, _⟩ := I.tuple hs
  rw [Vals.ref1 r]
  obtain ⟨as, ra⟩ := Dp.readsAll I _ _ its hd rv
  refine PySem.W.max_tuple_data (I.ok.hd hc) hl (by simpa using ra) al (by omega) fun i v h' tk bs hi rd hk => ?_
  obtain ⟨x, ex, rx⟩ := vals_get rv i v (by simpa using hi)
  obtain ⟨e, ee, he⟩ := dps_get hd i x ex
  obtain ⟨cs, rr⟩ := Dp.reads I e x v he rx
  have := (Reads.unique (PySem.W.reads_keeps hk rr) _ _ rd).1
  exact ⟨x, H, I.kept hk, rx, q i x ex (by rw [ee, this])⟩
end
end L2
namespace L2.DL
open PySem PySem.Spec PyProof.Rows
variable [Tbs]
/-- min(t), max(t) of a tuple's data -/
def bestT (f : PyData → List PyData → PyData) : List D → PD → MS → Prop
  | [.tup es], R, M => isPs es = true ∧ ∃ d ds, pds es = d :: ds ∧ PySem.W.AlikeAll (d :: ds) ∧ PyData.depthAll (d :: ds) ≤ 60 ∧ ∀ e, e ∈ es → pd e = f d ds → R e M
  | _, _, _ => False
def mnTD : List D → PD → MS → Prop := bestT PySem.W.minD
def mxTD : List D → PD → MS → Prop := bestT PySem.W.maxD
theorem relA_get {K : ZK} {H : Hp} {M : MS} : ∀ {vs : List V} {ds : List D}, RelA K H M vs ds → ∀ (i : Nat) (v : V), vs[i]? = some v → ∃ d, ds[i]? = some d ∧ Rel K H M v d
  | _, _, .nil, _, _, e => by simp at e
  | _, _, .cons h _, 0, x, e => by
    have e := Option.some.inj (show some _ = some x from e)
    subst e
    exact ⟨_, rfl, h⟩
  | _, _, .cons _ hs, i + 1, x, e => relA_get hs i x (by simpa using e)
theorem pds_get : ∀ (es : List D) (i : Nat), (pds es)[i]? = (es[i]?).map pd
  | [], _ => by simp [pds]
  | _ :: _, 0 => by simp [pds]
  | _ :: es, i + 1 => by simpa [pds] using pds_get es i
theorem c_best {X : Cx} {id : String} {f : PyData → List PyData → PyData} (h : CallR X (.builtin id) (rBestT X.K f)) : CallD X (.builtin id) (bestT f) := by
  refine ⟨_, h, fun z H M xs vs R Q m ra h hc => ?_⟩
  unfold bestT at h
  split at h
  · rename_i es
    cases ra with
    | cons x y =>
      cases y
      obtain ⟨ip, d, ds, ed, al, dp, q⟩ := h
      cases x with
      | tup sq ra =>
        refine ⟨_, _, d, ds, rfl, sq, ed ▸ dps_of es _ ip ra, al, dp, fun i x ex ei => ?_⟩
        obtain ⟨e, ee, re⟩ := relA_get ra i x ex
        rw [← ed, pds_get, ee] at ei
        exact hc.here (q e (List.mem_of_getElem? ee) (Option.some.inj ei)) m re
  · exact h.elim
theorem c_minT {X : Cx} (hc : X.calm = true) (hu : X.A.units + 64 < cLine) : CallD X (.builtin "min") mnTD := c_best (cr_minT hc hu)
theorem c_maxT {X : Cx} (hc : X.calm = true) (hu : X.A.units + 64 < cLine) : CallD X (.builtin "max") mxTD := c_best (cr_maxT hc hu)
theorem alike_ints (ns : List Int) : PySem.W.AlikeAll (ns.map PyData.int) := by
  constructor
  · intro x hx y hy
    obtain ⟨a, _, rfl⟩ := List.mem_map.mp hx
    obtain ⟨b, _, rfl⟩ := List.mem_map.mp hy
    simp only [PySem.W.alike]
  · intro x hx
    obtain ⟨a, _, rfl⟩ := List.mem_map.mp hx
    exact fun e => by cases e
theorem depth_ints : ∀ ns : List Int, PyData.depthAll (ns.map PyData.int) = 0
  | [] => by simp only [List.map_nil, PyData.depthAll]
  | n :: ns => by simp only [List.map_cons, PyData.depthAll, PyData.depth, depth_ints ns, Nat.max_self]
theorem foldl_min (n : Int) (ns : List Int) : ns.foldl min n ∈ n :: ns ∧ ∀ y, y ∈ n :: ns → ns.foldl min n ≤ y := by
  induction ns generalizing n with
  | nil => simp
  | cons k r ih =>
    obtain ⟨h1, h2⟩ := ih (min n k)
    rw [List.foldl_cons]
    constructor
    · rcases List.mem_cons.mp h1 with h | h
      · rw [h]
        rcases Int.le_total n k with h | h
        · rw [Int.min_eq_left h]; exact List.mem_cons_self
        · rw [Int.min_eq_right h]; exact List.mem_cons_of_mem _ List.mem_cons_self
      · exact List.mem_cons_of_mem _ (List.mem_cons_of_mem _ h)
    · intro y hy
      have h0 := h2 (min n k) List.mem_cons_self
      rcases List.mem_cons.mp hy with h | h
      · omega
      · rcases List.mem_cons.mp h with h | h
        · omega
        · exact h2 y (List.mem_cons_of_mem _ h)
theorem foldl_max (n : Int) (ns : List Int) : ns.foldl max n ∈ n :: ns ∧ ∀ y, y ∈ n :: ns → y ≤ ns.foldl max n := by
  induction ns generalizing n with
  | nil => simp
  | cons k r ih =>
    obtain ⟨h1, h2⟩ := ih (max n k)
    rw [List.foldl_cons]
    constructor
    · rcases List.mem_cons.mp h1 with h | h
      · rw [h]
        rcases Int.le_total n k with h | h
        · rw [Int.max_eq_right h]; exact List.mem_cons_of_mem _ List.mem_cons_self
        · rw [Int.max_eq_left h]; exact List.mem_cons_self
      · exact List.mem_cons_of_mem _ (List.mem_cons_of_mem _ h)
    · intro y hy
      have h0 := h2 (max n k) List.mem_cons_self
      rcases List.mem_cons.mp hy with h | h
      · omega
      · rcases List.mem_cons.mp h with h | h
        · omega
        · exact h2 y (List.mem_cons_of_mem _ h)
theorem q_minT {n : Int} {ns : List Int} {R : PD} {M : MS} (q : ∀ k, k ∈ n :: ns → (∀ y, y ∈ n :: ns → k ≤ y) → R (.int k) M) : mnTD [.tup ((n :: ns).map D.int)] R M := by
  refine ⟨isPs_ints _, .int n, ns.map .int, pds_ints (n :: ns), alike_ints (n :: ns), by rw [← List.map_cons (f := PyData.int), depth_ints]; exact Nat.zero_le _, fun e he h => ?_⟩
  obtain ⟨k, hk, rfl⟩ := List.mem_map.mp he
  rw [PySem.W.minD_ints] at h
  have e : k = ns.foldl min n := by cases h; rfl
  subst e
  exact q _ hk (foldl_min n ns).2
theorem q_maxT {n : Int} {ns : List Int} {R : PD} {M : MS} (q : ∀ k, k ∈ n :: ns → (∀ y, y ∈ n :: ns → y ≤ k) → R (.int k) M) : mxTD [.tup ((n :: ns).map D.int)] R M := by
  refine ⟨isPs_ints _, .int n, ns.map .int, pds_ints (n :: ns), alike_ints (n :: ns), by rw [← List.map_cons (f := PyData.int), depth_ints]; exact Nat.zero_le _, fun e he h => ?_⟩
  obtain ⟨k, hk, rfl⟩ := List.mem_map.mp he
  rw [PySem.W.maxD_ints] at h
  have e : k = ns.foldl max n := by cases h; rfl
  subst e
  exact q _ hk (foldl_max n ns).2
end L2.DL
/-! DLzh: dicts whose keys are ints and texts; l[::k] of a list -/
namespace L2
open PySem PySem.Spec PyProof.Rows
def pickN {α : Type} (idx : List Nat) (xs : List α) : List α := idx.filterMap fun i => xs[i]?
theorem vals_at {xs : List V} {us : List Value} (h : Vals xs us) : ∀ i : Nat, (∃ x u, xs[i]? = some x ∧ us[i]? = some u ∧ RelV x u) ∨ (xs[i]? = none ∧ us[i]? = none) := by
  induction h with
  | nil => intro i; exact .inr ⟨by simp, by simp⟩
  | cons r _ ih =>
    intro i
    cases i with
    | zero => exact .inl ⟨_, _, rfl, rfl, r⟩
    | succ i => simpa using ih i
theorem vals_pick {xs : List V} {us : List Value} (h : Vals xs us) : ∀ idx : List Nat, Vals (pickN idx xs) (pickN idx us)
  | [] => .nil
  | i :: idx => by
    have ih := vals_pick h idx
    unfold pickN at ih ⊢
    rcases vals_at h i with ⟨x, u, e1, e2, r⟩ | ⟨e1, e2⟩
    · rw [List.filterMap_cons_some e1, List.filterMap_cons_some e2]; exact .cons r ih
    · rw [List.filterMap_cons_none e1, List.filterMap_cons_none e2]; exact ih
theorem pick_mem {α : Type} {idx : List Nat} {xs : List α} {x : α} (h : x ∈ pickN idx xs) : x ∈ xs := by
  obtain ⟨i, _, e⟩ := List.mem_filterMap.mp h
  exact List.mem_of_getElem? e
section
variable {X : Cx}
def tStepL (K : PySem.W.Frag) (te ts : TE) : TE := fun σ H Q => te σ H fun x H1 => ts σ H1 fun y H2 => ∃ a xs k, x = .ref a ∧ y = .int k ∧ k ≠ 0 ∧ SqL K H2 a xs ∧ ∀ idx : List Nat, (pickN idx xs).length ≤ xs.length → ∀ p, H2 p = none → Q (.ref p) (upd H2 p (.lst (pickN idx xs)))
theorem pe_stepL {e st : Expr} {te ts : TE} {p3 pos : Pos} (he : PE X e te) (hs : PE X st ts) : PE X (.Subscript e (.Slice none none (some st) p3) pos) (tStepL X.K te ts) := by
  refine ⟨fun pins s σ H Q I h => ?_⟩
  refine Subscript_ (thn (he.run pins s σ H _ I h) fun v s1 ⟨x, H1, I1, r1, hq⟩ => ?_)
  have hst : PO X (some st) (tPart ts) := po_some hs
  have hm3 : ∀ (t : TE) H0, t σ H0 (fun y H2 => ∃ a xs k, x = .ref a ∧ y = .int k ∧ k ≠ 0 ∧ SqL X.K H2 a xs ∧ ∀ idx : List Nat, (pickN idx xs).length ≤ xs.length → ∀ p, H2 p = none → Q (.ref p) (upd H2 p (.lst (pickN idx xs)))) →
      t σ H0 (fun y H2 => ∃ i, y = .int i ∧ ∃ a xs k, x = .ref a ∧ some i = some k ∧ k ≠ 0 ∧ SqL X.K H2 a xs ∧ ∀ idx : List Nat, (pickN idx xs).length ≤ xs.length → ∀ p, H2 p = none → Q (.ref p) (upd H2 p (.lst (pickN idx xs)))) := fun t H0 h => by
    have e : (fun (y : V) (H2 : Hp) => ∃ a xs k, x = V.ref a ∧ y = V.int k ∧ k ≠ 0 ∧ SqL X.K H2 a xs ∧ ∀ idx : List Nat, (pickN idx xs).length ≤ xs.length → ∀ p, H2 p = none → Q (.ref p) (upd H2 p (.lst (pickN idx xs)))) = (fun y H2 => ∃ i, y = .int i ∧ ∃ a xs k, x = .ref a ∧ some i = some k ∧ k ≠ 0 ∧ SqL X.K H2 a xs ∧ ∀ idx : List Nat, (pickN idx xs).length ≤ xs.length → ∀ p, H2 p = none → Q (.ref p) (upd H2 p (.lst (pickN idx xs)))) := by
      funext y H2
      apply propext
      constructor
      · rintro ⟨a, xs, k, h1, h2, h3, h4⟩
        exact ⟨k, h2, a, xs, k, h1, rfl, h3, h4⟩
      · rintro ⟨i, h2, a, xs, k, h1, h5, h3, h4⟩
        cases h5
        exact ⟨a, xs, i, h1, h2, h3, h4⟩
    rw [← e]
    exact h
  refine wpAny_Slice (thn (po_none.run pins s1 σ H1 (fun o z2 => o = none ∧ z2 = H1) I1 ⟨rfl, rfl⟩) fun vl s2 ⟨l, H2, I2, pl, el, e2⟩ => ?_)
  subst el e2
  refine thn (po_none.run pins s2 σ H2 (fun o z3 => o = none ∧ z3 = H2) I2 ⟨rfl, rfl⟩) fun vu s3 ⟨u, H3, I3, pu, eu, e3⟩ => ?_
  subst eu e3
  refine thn (hst.run pins s3 σ H3 (fun o z4 => ∃ a xs k, x = .ref a ∧ o = some k ∧ k ≠ 0 ∧ SqL X.K z4 a xs ∧ ∀ idx : List Nat, (pickN idx xs).length ≤ xs.length → ∀ p, z4 p = none → Q (.ref p) (upd z4 p (.lst (pickN idx xs)))) I3 ?_) fun vs s4 ⟨o, H4, I4, ps, a, xs, k, ex, eo, hk, hx, q⟩ => ?_
  · exact hm3 _ _ hq
  · subst ex eo
    cases r1
    have I5 : Inv X pins σ H4 { s4 with heap := s4.heap.push { cls := .type "slice", data := .fields #[vl, vu, vs] } } := I4.kept (t' := s4.toks) fun b ob q => Heap.get?_push_of_some _ q
    show wpAny (model X.prog X.w) X.A (subscriptTail e (.Slice none none (some st) p3) (.ref a) (.ref s4.heap.objs.size)) (EP X pins σ Q) X.xe { s4 with heap := s4.heap.push { cls := .type "slice", data := .fields #[vl, vu, vs] } }
    obtain ⟨its, r, ht, hz⟩ := I5.list hx
    have hlen := r.length
    refine tail_any (ops := [.ref a, .ref s4.heap.objs.size]) ht.isList.typeIs slot_list_getitem.lookup ?_ (by with_unfolding_all rfl)
    refine wpAny_getItem_list_slice ht.isList (Heap.IsSliceOf.new _ vl vu vs) pl pu ps (fun e => hk (Option.some.inj e)) ?_ (by rw [List.size_toArray]; omega)
    have hsz := slicePick_size_le its.toArray none none (some k)
    obtain ⟨idx, ei⟩ : ∃ idx : List Nat, slicePick its.toArray none none (some k) = (pickN idx its).toArray := ⟨sliceRange (sliceBounds none none (some k) its.toArray.size).1 (sliceBounds none none (some k) its.toArray.size).2.1 (sliceBounds none none (some k) its.toArray.size).2.2, by unfold slicePick pickN; simp only [List.getElem?_toArray]⟩
    have rp := vals_pick r idx
    have lp := rp.length
    rw [ei] at hsz ⊢
    rw [List.size_toArray, List.size_toArray] at hsz
    have hl2 : (pickN idx xs).length ≤ xs.length := by omega
    refine ⟨.ref _, _, I5.laid (t' := s4.toks) (o := .lst (pickN idx xs)) (fun b ob z => Heap.get?_push_of_some _ z) (Nat.le_refl _) ?_, rfl, q idx hl2 _ (I5.hok.fresh (Nat.le_refl _))⟩
    exact ⟨by omega, _, 0, rp, Heap.get?_push_size _ rfl⟩
/-- in, not in: of a dict -/
theorem op_inK (hu : X.A.units + 65 < cLine) : OpR X (compareOp .In) (fun x y H Q => ∃ a o, y = .ref a ∧ DGet H a x o ∧ Q (.bl o.isSome) H) := by
  intro pins s σ H x y v u Q I rx ry h
  obtain ⟨a, o, rfl, g, q⟩ := h
  cases ry
  exact d_in (by omega) I g rx fun s' I' => ⟨.bl _, H, I', rfl, q⟩
theorem op_notInK (hu : X.A.units + 65 < cLine) : OpR X (compareOp .NotIn) (fun x y H Q => ∃ a o, y = .ref a ∧ DGet H a x o ∧ Q (.bl (!o.isSome)) H) := by
  intro pins s σ H x y v u Q I rx ry h
  obtain ⟨a, o, rfl, g, q⟩ := h
  cases ry
  exact d_notIn (by omega) I g rx fun s' I' => ⟨.bl _, H, I', rfl, q⟩
end
end L2
namespace L2.DL
open PySem PySem.Spec PyProof.Rows
variable [Tbs]
/-! l[::k] as data -/
theorem relA_at {K : ZK} {H : Hp} {M : MS} : ∀ {vs : List V} {ds : List D}, RelA K H M vs ds → ∀ i : Nat, (∃ v d, vs[i]? = some v ∧ ds[i]? = some d ∧ Rel K H M v d) ∨ (vs[i]? = none ∧ ds[i]? = none)
  | _, _, .nil, i => .inr ⟨by simp, by simp⟩
  | _, _, .cons r _, 0 => .inl ⟨_, _, rfl, rfl, r⟩
  | _, _, .cons _ t, i + 1 => by simpa using relA_at t i
theorem RelA.pick {K : ZK} {H : Hp} {M : MS} {vs : List V} {ds : List D} (h : RelA K H M vs ds) : ∀ idx : List Nat, RelA K H M (pickN idx vs) (pickN idx ds)
  | [] => .nil
  | i :: idx => by
    have ih := RelA.pick h idx
    unfold pickN at ih ⊢
    rcases relA_at h i with ⟨x, u, e1, e2, r⟩ | ⟨e1, e2⟩
    · rw [List.filterMap_cons_some e1, List.filterMap_cons_some e2]; exact .cons r ih
    · rw [List.filterMap_cons_none e1, List.filterMap_cons_none e2]; exact ih
def stepLD : D → D → PD → MS → Prop
  | d, .int k, R, M => k ≠ 0 ∧ ∃ ds, Ls M d ds ∧ ∀ idx : List Nat, (pickN idx ds).length ≤ ds.length → R (.lst (pickN idx ds)) M
  | _, _, _, _ => False
def dStepL (te ts : DTE) : DTE := fun ρ R E M => te ρ (fun d M1 => ts ρ (fun k M2 => stepLD d k R M2) E M1) E M
theorem de_stepL {X : Cx} {W : WX} {e st : Expr} {te ts : DTE} {p3 pos : Pos} (he : DE X W e te) (hs : DE X W st ts) : DE X W (.Subscript e (.Slice none none (some st) p3) pos) (dStepL te ts) :=
  imp (pe_stepL he hs) fun σ H Q ⟨z, ρ, M, R, E, hs, hm, h, hc, hE⟩ =>
    ⟨z, ρ, M, _, E, hs, hm, h, fun d M1 v H1 h1 m1 r1 e1 => ⟨z, ρ, M1, _, E, hs.ext e1, m1, h1, fun k M2 w H2 h2 m2 r2 e2 => by
      have h2 : stepLD d k R M2 := h2
      have r1' := e2 _ _ r1
      unfold stepLD at h2
      split at h2
      · rename_i k
        obtain ⟨hk, ds, hl, q⟩ := h2
        cases r2
        obtain ⟨p, vs, rfl, hq, ra⟩ := ls_at m2 hl r1'
        refine ⟨_, _, _, rfl, rfl, hk, SqL.of hq, fun idx hi p' hp => ?_⟩
        have rp := ra.pick idx
        have hi' : (pickN idx ds).length ≤ ds.length := by rw [← rp.length, ← ra.length]; exact hi
        exact hc _ _ _ _ (q idx hi') (relM_new m2 hp) (.lst (fz_new m2 hp) ((ext_new m2 hp).all rp)) ((e1.trans e2).trans (ext_new m2 hp))
      · exact h2.elim, hE.ext e1⟩, hE⟩
theorem v_stepL {ρ : Sl} {R : PD} {E : XP} {M : MS} {te ts : DTE} : dStepL te ts ρ R E M = te ρ (fun d M1 => ts ρ (fun k M2 => stepLD d k R M2) E M1) E M := (rfl)
theorem q_stepLL {ds : List D} {k : Int} {R : PD} {M : MS} (hk : k ≠ 0) (q : ∀ idx : List Nat, (pickN idx ds).length ≤ ds.length → R (.lst (pickN idx ds)) M) : stepLD (.lst ds) (.int k) R M := ⟨hk, ds, rfl, q⟩
/-! dicts by ints and texts -/
def eK : Key → D
  | .inl i => .int i
  | .inr x => .str x
theorem eK_rel {K : ZK} {H : Hp} {M : MS} {k : Key} {v : V} (r : Rel K H M v (eK k)) : v = kV k := by
  cases k with
  | inl i => cases r; rfl
  | inr x => cases r; rfl
section
variable {κ : Type} [DecidableEq κ]
def putM (kvs : List (κ × D)) (k : κ) (d : D) : List (κ × D) :=
  if (kvs.any fun kv => decide (kv.1 = k)) = true then kvs.map (fun kv => if kv.1 = k then (kv.1, d) else kv) else kvs ++ [(k, d)]
def getM (kvs : List (κ × D)) (k : κ) : Option D := (kvs.find? fun kv => decide (kv.1 = k)).map (·.2)
def mergeM (kvs more : List (κ × D)) : List (κ × D) := more.foldl (fun acc kv => putM acc kv.1 kv.2) kvs
variable {K : ZK} {H : Hp} {M : MS}
theorem RelK.any : ∀ {ws : List (κ × V)} {kvs : List (κ × D)}, RelK K H M ws kvs → ∀ k : κ, (ws.any fun kv => decide (kv.1 = k)) = (kvs.any fun kv => decide (kv.1 = k))
  | _, _, .nil, _ => rfl
  | _, _, .cons _ t, k => by rw [List.any_cons, List.any_cons, RelK.any t k]
theorem RelK.repl (k : κ) {v : V} {d : D} (r : Rel K H M v d) : ∀ {ws : List (κ × V)} {kvs : List (κ × D)}, RelK K H M ws kvs → RelK K H M (ws.map fun kv => if kv.1 = k then (kv.1, v) else kv) (kvs.map fun kv => if kv.1 = k then (kv.1, d) else kv)
  | _, _, .nil => .nil
  | _, _, .cons (k := k') a t => by
    rw [List.map_cons, List.map_cons]
    by_cases e : k' = k
    · rw [if_pos e, if_pos e]; exact .cons r (RelK.repl k r t)
    · rw [if_neg e, if_neg e]; exact .cons a (RelK.repl k r t)
theorem RelK.snoc {k : κ} {v : V} {d : D} (r : Rel K H M v d) : ∀ {ws : List (κ × V)} {kvs : List (κ × D)}, RelK K H M ws kvs → RelK K H M (ws ++ [(k, v)]) (kvs ++ [(k, d)])
  | _, _, .nil => .cons r .nil
  | _, _, .cons a t => .cons a (RelK.snoc r t)
theorem RelK.put {ws : List (κ × V)} {kvs : List (κ × D)} (h : RelK K H M ws kvs) (k : κ) {v : V} {d : D} (r : Rel K H M v d) : RelK K H M (putK ws k v) (putM kvs k d) := by
  unfold putK putM
  rw [h.any k]
  split
  · exact RelK.repl k r h
  · exact RelK.snoc r h
theorem RelK.length : ∀ {ws : List (κ × V)} {kvs : List (κ × D)}, RelK K H M ws kvs → ws.length = kvs.length
  | _, _, .nil => rfl
  | _, _, .cons _ t => by rw [List.length_cons, List.length_cons, RelK.length t]
theorem RelK.getS {k : κ} {d : D} : ∀ {ws : List (κ × V)} {kvs : List (κ × D)}, RelK K H M ws kvs → getM kvs k = some d → ∃ v, valV ws k = some v ∧ Rel K H M v d
  | _, _, .nil, e => by simp [getM] at e
  | _, _, .cons (k := k') (v := v') (d := d') (vs := vs) (ds := ds) a t, e => by
    by_cases c : k' = k
    · have e' : some d' = some d := by simpa [getM, List.find?_cons, c] using e
      have e' := Option.some.inj e'
      subst e'
      exact ⟨v', valV_pos c, a⟩
    · have e' : getM ds k = some d := by simpa [getM, List.find?_cons, c] using e
      obtain ⟨v, h1, h2⟩ := RelK.getS t e'
      exact ⟨v, by rw [valV_neg c]; exact h1, h2⟩
theorem valV_any' (ws : List (κ × V)) (k : κ) : (valV ws k).isSome = (ws.any fun kv => decide (kv.1 = k)) := (valV_any k ws).symm
end
theorem RelK.merge {K : ZK} {H : Hp} {M : MS} : ∀ {more : List (Key × V)} {rs : List (Key × D)} {ws : List (Key × V)} {kvs : List (Key × D)}, RelK K H M more rs → RelK K H M ws kvs → RelK K H M (mergeK ws more) (mergeM kvs rs)
  | _, _, _, _, .nil, h => h
  | _, _, ws, kvs, .cons (k := k) (v := v) (d := d) (vs := vs) (ds := ds) a t, h => by
    show RelK K H M (mergeK (putK ws k v) vs) (mergeM (putM kvs k d) ds)
    exact RelK.merge t (h.put k a)
/-- dict(l) of a list of pairs -/
def dctD : List D → PD → MS → Prop
  | [.lst ds], R, M => ∃ kvs : List (Key × D), ds = kvs.map (fun kv => D.tup [eK kv.1, kv.2]) ∧ ∀ p, M p = none → R (.ref p) (um M p (.dk (mergeM [] kvs)))
  | _, _, _ => False
theorem pairs_rel {K : ZK} {H : Hp} {M : MS} : ∀ {vs : List V} {kvs : List (Key × D)}, RelA K H M vs (kvs.map fun kv => D.tup [eK kv.1, kv.2]) → ∃ (ps : List Addr) (ws : List (Key × V)), vs = ps.map V.ref ∧ Paired (fun p kv => SqT K.K H p [kV kv.1, kv.2]) ps ws ∧ RelK K H M ws kvs
  | _, [], h => by
    cases h
    exact ⟨[], [], rfl, .nil, .nil⟩
  | _, (k, d) :: kvs, h => by
    cases h with
    | cons a t =>
      obtain ⟨ps, ws, e1, e2, e3⟩ := pairs_rel t
      cases a with
      | tup s ra =>
        cases ra with
        | cons b rb =>
          cases rb with
          | cons c rc =>
            cases rc
            have ek := eK_rel b
            subst ek
            exact ⟨_ :: ps, (k, _) :: ws, by rw [e1]; rfl, .cons s e2, .cons c e3⟩
theorem c_dict {X : Cx} (hcalm : X.calm = true) : CallD X (.type "dict") dctD := by
  refine ⟨_, call_dictP hcalm, fun z H M xs vs R Q m ra h hc => ?_⟩
  unfold dctD at h
  split at h
  · obtain ⟨kvs, rfl, q⟩ := h
    cases ra with
    | cons x y =>
      cases y
      cases x with
      | lst f ra =>
        obtain ⟨ps, ws, rfl, e2, e3⟩ := pairs_rel ra
        refine ⟨_, ps, ws, rfl, f.sq, e2, fun p hp => ?_⟩
        have rk : RelK _ H M (mergeK [] ws) (mergeM [] kvs) := RelK.merge e3 .nil
        exact hc _ _ _ _ (q p (m.free hp)) (relM_alloc m hp ⟨_, upd_same, (ext_alloc m hp).keys rk⟩) (.ref p) (ext_alloc m hp)
  · exact h.elim
theorem bt_dict : bootBuiltins "dict" = some (.type "dict") := by decide +kernel
/-- k in d -/
def inKG (f : Bool → Bool) : D → D → PD → MS → Prop
  | x, .ref a, R, M => ∃ k kvs, x = eK k ∧ M a = some (.dk kvs) ∧ R (.bl (f (kvs.any fun kv => decide (kv.1 = k)))) M
  | _, _, _, _ => False
def inKD : D → D → PD → MS → Prop := inKG id
def notInKD : D → D → PD → MS → Prop := inKG fun k => !k
theorem o_inK {X : Cx} (hu : X.A.units + 65 < cLine) : OpD X (compareOp .In) inKD := by
  refine ⟨_, op_inK hu, fun z H M x y vx vy R Q m rx ry h hc => ?_⟩
  unfold inKD inKG at h
  split at h
  · obtain ⟨k, kvs, rfl, e, q⟩ := h
    obtain ⟨ws, eh, rk⟩ := m.at' _ _ e
    cases ry
    have ev := eK_rel rx
    subst ev
    refine ⟨_, _, rfl, DGet.k eh, ?_⟩
    rw [valV_any', rk.any]
    exact hc.here q m (.bl _)
  · exact h.elim
theorem o_notinK {X : Cx} (hu : X.A.units + 65 < cLine) : OpD X (compareOp .NotIn) notInKD := by
  refine ⟨_, op_notInK hu, fun z H M x y vx vy R Q m rx ry h hc => ?_⟩
  unfold notInKD inKG at h
  split at h
  · obtain ⟨k, kvs, rfl, e, q⟩ := h
    obtain ⟨ws, eh, rk⟩ := m.at' _ _ e
    cases ry
    have ev := eK_rel rx
    subst ev
    refine ⟨_, _, rfl, DGet.k eh, ?_⟩
    rw [valV_any', rk.any]
    exact hc.here q m (.bl _)
  · exact h.elim
end L2.DL
/-! DLzl: defs with defaults, by any global name; calls with keywords -/
namespace L2.DL
open PySem PySem.Spec PyProof.Rows
variable [Tbs]
/-- values that may stand as defaults -/
def dfV : D → V
  | .int i => .int i
  | .str x => .str x
  | .bl b => .bl b
  | _ => .non
def dfOk : D → Bool
  | .int _ => true
  | .str _ => true
  | .bl _ => true
  | .non => true
  | _ => false
theorem df_rel {K : ZK} {H : Hp} {M : MS} : ∀ {d : D}, dfOk d = true → Rel K H M (dfV d) d
  | .int _, _ => .int _
  | .str _, _ => .str _
  | .bl _, _ => .bl _
  | .non, _ => .non
  | .ty _, h => by cases h
  | .ref _, h => by cases h
  | .tup _, h => by cases h
  | .lst _, h => by cases h
  | .scr _, h => by cases h
  | .fn _, h => by cases h
  | .clo _ _ _, h => by cases h
theorem df_rels {K : ZK} {H : Hp} {M : MS} : ∀ {ds : List D}, ds.all dfOk = true → RelA K H M (ds.map dfV) ds
  | [], _ => .nil
  | d :: ds, h => by
    rw [List.all_cons, Bool.and_eq_true] at h
    exact .cons (df_rel h.1) (df_rels h.2)
section
variable {P : Program} {w : World} {K : PySem.W.Frag} {mg : Str → Option Value} {base : Heap}
/-- a def's body read over data, whatever its defaults -/
theorem FnD.ofD {x qual : Str} {params : Arguments} {body : List Stmt} {scope : Scope} {dvs : List V} {kws : List (Str × V)} {f : Addr} {fd : FuncData} {N ps : List Str} {k : Nat} {g : G} {tb : DTS} (F : FunD K x qual params body scope dvs kws f fd) (S : FnScope N ps scope) (len : ∀ ds R E M, g ds R E M → ds.length = ps.length)
    (hb : ∀ (cdv : Value) (A : Around) (outer : List Env) (s : Shared) (H : Hp) (E : XK), Room k (A.deeper (envOfC qual scope s.heap.objs.size f cdv)) → (A.deeper (envOfC qual scope s.heap.objs.size f cdv)).guards = some [] →
      DSs (cxOf (L2.CX P w) P w K mg base N qual scope f cdv A outer s H E) (WB E) body tb)
    (hg : ∀ ds R RE M, g ds R RE M → tb (ends R RE) (startD N ds) M) : FnD P w K mg base (k + 1) f fd ps g := by
  obtain ⟨oc, od, dV, kV, doc, pm, an, cdv, ct, osl, rfl, lk, hcd, _, _⟩ := F.ex
  refine ⟨len, fun A outer s H args us vs Q E hr hG e0 hbd r hsp => ?_⟩
  obtain ⟨z, ds, M, R, RE, ra, rm, hgg, hcont, hex⟩ := hsp
  have hl : vs.length = ps.length := ra.length.trans (len _ _ _ _ hgg)
  have nl : ds.length ≤ N.length := by
    have z := congrArg List.length S.pre
    rw [List.length_take] at z
    have z2 := len _ _ _ _ hgg
    omega
  have kx : K.In s.heap := e0.mod.kin.keeps fun b o e => (e0.bs b o e).1
  have nolim : s.heap.NoLimit := e0.mod.nolimit.keeps fun b o e => (e0.bs b o e).1
  have kinds : ∀ y ∈ ps.zip us, scope.names.lookup y.1 = some .local ∨ (scope.names.lookup y.1 = some .cell ∧ ((cellsFrom (s.heap.objs.size + 1) scope.names []).lookup y.1).isSome = true) := by
    rintro ⟨n, v⟩ hy
    rcases S.par n (List.of_mem_zip hy).1 with q | q
    · exact .inl q
    · exact .inr ⟨q, PySem.W.cellsFrom_some _ _ _ (.inl q)⟩
  refine codeAny_call_function hr.depth (kx _ _ lk) rfl S.co S.gen rfl (PySem.W.codeRec_of kx hcd) (hbd _ _ _ _ ?_)
  refine wpAny_newFunctionEnv_cells S.kind kinds fun env he s1 xc => ?_
  subst he
  refine ⟨nolim.keeps xc.toInCall.keep, codeAny_func ?_⟩
  have T := hb cdv A outer s H E (hr.deeper _) hG
  have I : Inv (cxOf (L2.CX P w) P w K mg base N qual scope f cdv A outer s H E) [] (L2.start N vs) H s1 := inv_start S hr.hd e0 hl r xc
  have reading : liftS K (WB E) tb { nx := fun _ H' => Q .non H', rt := Q } (L2.start N vs) H := by
    refine ⟨z, startD N ds, M, ends R RE, relS_start ra nl, rm, hg ds R RE M hgg, ?_, ?_, ?_, ?_, ?_⟩
    · rintro ρ' M' σ' H' ⟨d', M2, wk, q⟩ m s e
      exact hcont d' M2 .non H' q (m.le wk.1) (wk.2 _ H' _ m .non) (e.trans (Ext.le wk.1))
    · rintro d M' v H' ⟨d', M2, wk, q⟩ m r e
      exact hcont d' M2 v H' q (m.le wk.1) (wk.2 _ H' _ m r) (e.trans (Ext.le wk.1))
    · intro _ _ _ _ q
      exact q.elim
    · intro _ _ _ _ q
      exact q.elim
    · rintro x ρ' M' cls d σ' H' ⟨M2, l, q⟩ m s rx e
      exact hex x M2 cls d H' q (m.le l) (relX_le l rx) (e.trans (Ext.le l))
  refine wpAny_mono (T.run [] s1 (L2.start N vs) H _ I reading) (fun fl s' hs => ?_) fun e s' hs => hs
  have fin : ∀ {σ' : St} {H' : Hp} {v : V} {u : Value}, Inv (cxOf (L2.CX P w) P w K mg base N qual scope f cdv A outer s H E) [] σ' H' s' → RelV v u → Q v H' → CE outer P w H s Q u s' :=
    fun {σ' H' v u} J rv q => ⟨v, H', J.os, J.bare, J.base, J.hok, rv, q⟩
  cases fl with
  | ret u =>
    obtain ⟨v, σ', H', J, rv, q⟩ := hs
    exact fin J rv q
  | next =>
    obtain ⟨σ', H', J, q⟩ := hs
    exact fin (v := .non) (u := .none) J rfl q
  | brk => exact (let ⟨_, _, _, q⟩ := hs; q.elim)
  | cont => exact (let ⟨_, _, _, q⟩ := hs; q.elim)
/-- a def of the text by its global name x (its own name may be another, y) -/
structure TxD (K : PySem.W.Frag) (mg : Str → Option Value) (x y : Str) (st : Stmt) (dvs : List D) : Prop where
  ex : ∃ f fd, mg x = some (.ref f) ∧ FunD K y y (defArgs st) (defBody st) (defScope st) (dvs.map dfV) [] f fd
/-- .. with what it promises -/
structure DfD (P : Program) (w : World) (K : PySem.W.Frag) (mg : Str → Option Value) (base : Heap) (x y : Str) (st : Stmt) (dvs : List D) (ps : List Str) (k : Nat) (g : G) : Prop where
  ex : ∃ f fd, mg x = some (.ref f) ∧ FunD K y y (defArgs st) (defBody st) (defScope st) (dvs.map dfV) [] f fd ∧ FnD P w K mg base k f fd ps g
theorem DfD.of {x y : Str} {st : Stmt} {dvs : List D} {N ps : List Str} {k : Nat} {g : G} {tb : DTS} (T : TxD K mg x y st dvs) (S : FnScope N ps (defScope st))
    (len : ∀ ds R E M, g ds R E M → ds.length = ps.length)
    (hb : ∀ (f : Addr) (cdv : Value) (A : Around) (outer : List Env) (s : Shared) (H : Hp) (E : XK), Room k (A.deeper (envOfC y (defScope st) s.heap.objs.size f cdv)) → (A.deeper (envOfC y (defScope st) s.heap.objs.size f cdv)).guards = some [] →
      DSs (cxOf (L2.CX P w) P w K mg base N y (defScope st) f cdv A outer s H E) (WB E) (defBody st) tb)
    (hg : ∀ ds R RE M, g ds R RE M → tb (ends R RE) (startD N ds) M) : DfD P w K mg base x y st dvs ps (k + 1) g := by
  obtain ⟨f, fd, h1, F⟩ := T.ex
  exact ⟨f, fd, h1, F, FnD.ofD F S len (hb f) hg⟩
/-- the values at these places -/
def gtX {α : Type} : List α → Nat → Option α
  | [], _ => none
  | x :: _, 0 => some x
  | _ :: xs, n + 1 => gtX xs n
def pmX {α : Type} : List Nat → List α → List α
  | [], _ => []
  | i :: ix, l => match gtX l i with
    | some x => x :: pmX ix l
    | none => pmX ix l
theorem v_gt0 {α : Type} {x : α} {l : List α} : gtX (x :: l) 0 = some x := (rfl)
theorem v_gtS {α : Type} {x : α} {l : List α} {n : Nat} : gtX (x :: l) (n + 1) = gtX l n := (rfl)
theorem v_pmN {α : Type} {l : List α} : pmX [] l = [] := (rfl)
theorem v_pmC {α : Type} {l : List α} {i : Nat} {ix : List Nat} : pmX (i :: ix) l = match gtX l i with
    | some x => x :: pmX ix l
    | none => pmX ix l := (rfl)
theorem v_apN {α : Type} {l : List α} : [] ++ l = l := (rfl)
theorem v_apC {α : Type} {x : α} {l m : List α} : (x :: l) ++ m = x :: (l ++ m) := (rfl)
theorem gtX_rel {α β : Type} {r : α → β → Prop} {q : List α → List β → Prop} (hq : ∀ a as b bs, q (a :: as) (b :: bs) → r a b ∧ q as bs) (h1 : ∀ a as, ¬ q (a :: as) []) (h2 : ∀ b bs, ¬ q [] (b :: bs)) : ∀ {as : List α} {bs : List β} (i : Nat), q as bs → (gtX as i = none ∧ gtX bs i = none) ∨ ∃ a b, gtX as i = some a ∧ gtX bs i = some b ∧ r a b
  | [], [], _, _ => .inl ⟨rfl, rfl⟩
  | [], b :: bs, _, h => absurd h (h2 b bs)
  | a :: as, [], _, h => absurd h (h1 a as)
  | a :: as, b :: bs, 0, h => .inr ⟨a, b, rfl, rfl, (hq _ _ _ _ h).1⟩
  | a :: as, b :: bs, i + 1, h => gtX_rel hq h1 h2 (as := as) (bs := bs) i (hq _ _ _ _ h).2
theorem pmX_vals {vs : List V} {us : List Value} (h : Vals vs us) : ∀ ix : List Nat, Vals (pmX ix vs) (pmX ix us)
  | [] => .nil
  | i :: ix => by
    rcases gtX_rel (r := RelV) (q := Vals) (fun a as b bs h => by cases h with | cons x y => exact ⟨x, y⟩) (fun a as h => by cases h) (fun b bs h => by cases h) i h with ⟨e1, e2⟩ | ⟨a, b, e1, e2, r⟩
    · rw [v_pmC, v_pmC, e1, e2]; exact pmX_vals h ix
    · rw [v_pmC, v_pmC, e1, e2]; exact .cons r (pmX_vals h ix)
theorem pmX_rel {K : ZK} {H : Hp} {M : MS} {vs : List V} {us : List D} (h : RelA K H M vs us) : ∀ ix : List Nat, RelA K H M (pmX ix vs) (pmX ix us)
  | [] => .nil
  | i :: ix => by
    rcases gtX_rel (r := Rel K H M) (q := RelA K H M) (fun a as b bs h => by cases h with | cons x y => exact ⟨x, y⟩) (fun a as h => by cases h) (fun b bs h => by cases h) i h with ⟨e1, e2⟩ | ⟨a, b, e1, e2, r⟩
    · rw [v_pmC, v_pmC, e1, e2]; exact pmX_rel h ix
    · rw [v_pmC, v_pmC, e1, e2]; exact .cons r (pmX_rel h ix)
theorem vals_app : ∀ {vs ws : List V} {us ys : List Value}, Vals vs us → Vals ws ys → Vals (vs ++ ws) (us ++ ys)
  | _, _, _, _, .nil, s => s
  | _, _, _, _, .cons r t, s => .cons r (vals_app t s)
/-- how a call binds: n values by places, m defaults, names ks; ix: where the parameters' values stand among all these -/
def BnD (st : Stmt) (y : Str) (ps ks : List Str) (n m : Nat) (ix : List Nat) : Prop :=
  (m ≠ 0 ∧ ∀ (kV doc pm : Value) (an : Option Addr) (cdv ct : Value) (T : Addr) (us its ws : List Value), us.length = n → its.length = m → ws.length = ks.length →
      ∃ k, bindArgs (PySem.W.fnOf y y (defArgs st) (defBody st) (defScope st) (.ref T) kV doc pm an cdv ct) ⟨us, ks.zip ws⟩ = seqItems? (.ref T) >>= k ∧ k (some its.toArray) = pure (ps.zip (pmX ix (us ++ (its ++ ws))))) ∨
  (m = 0 ∧ ∀ (kV doc pm : Value) (an : Option Addr) (cdv ct : Value) (us ws : List Value), us.length = n → ws.length = ks.length →
      bindArgs (PySem.W.fnOf y y (defArgs st) (defBody st) (defScope st) .none kV doc pm an cdv ct) ⟨us, ks.zip ws⟩ = pure (ps.zip (pmX ix (us ++ ws))))
end
theorem knD {K : PySem.W.Frag} {y : Str} {st : Stmt} {dvs : List V} {f : Addr} {fd : FuncData} {ps ks : List Str} {n : Nat} {ix : List Nat} (F : FunD K y y (defArgs st) (defBody st) (defScope st) dvs [] f fd)
    (h : BnD st y ps ks n dvs.length ix) :
    ∃ its : List Value, Vals dvs its ∧ ∀ (s : Shared) (us ws : List Value), K.In s.heap → us.length = n → ws.length = ks.length → BindsTo s fd ⟨us, ks.zip ws⟩ (ps.zip (pmX ix (us ++ (its ++ ws)))) := by
  obtain ⟨oc, od, dV, kV, doc, pm, an, cdv, ct, osl, rfl, lk, hcd, hD, hK⟩ := F.ex
  rcases hD with ⟨e, e2⟩ | ⟨ne, T, o, its, m, rfl, lT, oT, rT⟩
  · subst e e2
    rcases h with ⟨e', _⟩ | ⟨_, h⟩
    · exact absurd rfl e'
    · exact ⟨[], .nil, fun s us ws X l1 l2 => .of_eq (h kV doc pm an cdv ct us ws l1 l2)⟩
  · rcases h with ⟨_, h⟩ | ⟨e, _⟩
    · refine ⟨its, rT, fun s us ws X l1 l2 => BindsTo.of_looks fun M => ?_⟩
      obtain ⟨k, e1, e2⟩ := h kV doc pm an cdv ct T us its ws l1 rT.length.symm l2
      rw [e1]
      exact looks_items X lT oT (.of_pure e2)
    · exact absurd (List.length_eq_zero_iff.mp e) ne
/-- the call: values by places, by names -/
def dCallN (n m : Nat) (ix : List Nat) (dvs : List D) (g : G) (t tk : DTA) : DTE := fun ρ R E M => t ρ (fun ds M1 => tk ρ (fun es M2 => ds.length = n ∧ es.length = m ∧ g (pmX ix (ds ++ (dvs ++ es))) R (fun x M' => E x ρ M') M2) E M1) E M
section
variable {X : Cx} {W : WX} {ea e : Expr} {es : List Expr} {t tk : DTA} {te : DTE} {g : G} {x y : Str} {ps ks : List Str} {k n m : Nat} {p pos kpos : Pos} {kws : List Keyword} {nm : Option Str} {st : Stmt} {dvs : List D} {ix : List Nat}
abbrev DK (X : Cx) (W : WX) (kws : List Keyword) (t : DTA) : Prop := PK X kws (liftA X.K W t)
theorem impK {X : Cx} {e : List Keyword} {t u : TA} (h : PK X e t) (hi : ∀ σ H Q, u σ H Q → t σ H Q) : PK X e u := ⟨fun pos pins s σ H Q I q => h.run pos pins s σ H Q I (hi σ H Q q)⟩
theorem dk_nil : DK X W [] dNil := impK pk_nil fun σ H Q ⟨z, ρ, M, R, E, hs, hm, h, hc, _⟩ => hc _ _ _ _ h hm .nil Ext.refl
theorem dk_cons (ha : DE X W e te) (hr : DK X W kws t) : DK X W (⟨nm, e, kpos⟩ :: kws) (dCons te t) :=
  impK (pk_cons ha hr) fun σ H Q ⟨z, ρ, M, R, E, hs, hm, h, hc, hE⟩ =>
    ⟨z, ρ, M, _, E, hs, hm, h, fun d M1 v H1 h1 m1 r1 e1 => ⟨z, ρ, M1, _, E, hs.ext e1, m1, h1, fun ds M2 vs H2 h2 m2 r2 e2 => hc _ _ _ _ h2 m2 (.cons (e2 _ _ r1) r2) (e1.trans e2), hE.ext e1⟩, hE⟩
/-- what stands behind the evaluation of all arguments -/
theorem callN_end {f : Addr} {fd : FuncData} {its : List Value} {pins : List (Addr × Obj)} {σ : St} {H2 : Hp} {s2 : Shared} {Q : VK} {us ws : List Value} {vs zs : List V} (F : FnD X.prog X.w X.K X.mg X.base k f fd ps g) (hr : Room k X.A) (hG : X.A.guards = some []) (tt : Takes X W) (hdv : dvs.all dfOk = true)
    (rT : Vals (dvs.map dfV) its) (hb : ∀ (s : Shared) (us ws : List Value), X.K.In s.heap → us.length = n → ws.length = ks.length → BindsTo s fd ⟨us, ks.zip ws⟩ (ps.zip (pmX ix (us ++ (its ++ ws)))))
    (I2 : Inv X pins σ H2 s2) (r : Vals vs us) (rz : Vals zs ws) (l1 : vs.length = n) (l2 : zs.length = ks.length) (q : spD X.K g (pmX ix (vs ++ (dvs.map dfV ++ zs))) H2 Q fun cls d H' => W cls d σ H') : wpAny (model X.prog X.w) X.A (call (.ref f) us (ks.zip ws)) (EP X pins σ Q) X.xe s2 := by
  refine wpAny_call (codeAny_mono (F.run X.A X.stack s2 H2 ⟨us, ks.zip ws⟩ _ _ Q _ hr hG I2.env0 (hb s2 us ws I2.kIn (r.length.symm.trans l1) (rz.length.symm.trans l2)) (pmX_vals (vals_app r (vals_app rT rz)) ix) q) fun res s' hq => ?_)
  cases res with
  | error e' => exact passAt tt σ pins H2 s2 e' s' I2 hq
  | ok fl =>
    cases fl with
    | ret u => exact I2.after hq
    | next => exact False.elim hq
    | brk => exact False.elim hq
    | cont => exact False.elim hq
theorem de_callN (dd : DfD X.prog X.w X.K X.mg X.base x y st dvs ps k g) (hr : Room k X.A) (hG : X.A.guards = some []) (tt : Takes X W) (hbn : BnD st y ps ks n dvs.length ix) (hm : ks.length = m) (ha : DA X W (e :: es) t) (hkw : DK X W kws tk)
    (hdv : dvs.all dfOk = true := by decide)
    (hall : (backToKw pos (keywordEach kws X.env)).all (·.1.isSome) = true := by rfl) (hks : (backToKw pos (keywordEach kws X.env)).filterMap (·.1) = ks := by rfl)
    (hg : Gl X x := by rfl) (hdb : (x == ("__debug__" : Str)) = false := by decide) (he : starEach (e :: es) X.env = (false, eval e X.env) :: starEach es X.env := by rfl)
    (hpl : ((backTo pos (starEach (e :: es) X.env)).any (·.1) || (backToKw pos (keywordEach kws X.env)).any (·.1.isNone)) = false := by rfl) :
    DE X W (.Call (.Name x p) (e :: es) kws pos) (dCallN n m ix dvs g t tk) := by
  obtain ⟨f, fd, hmg, F, FD⟩ := dd.ex
  obtain ⟨its, rT, hb⟩ := knD F (ps := ps) (ks := ks) (n := n) (ix := ix) (by rw [List.length_map]; exact hbn)
  refine ⟨fun pins s σ H Q I ⟨z, ρ, M, R, E, hs, hm2, h, hc, hE⟩ => ?_⟩
  refine wpAny_Call_Name_kw (ld_glob I hg hmg ?_ hdb)
  refine PySem.W.callWith_KW (h₀ := X.base) I.ok.mod.kin F.kp hall (thn (ha.run pos pins s σ H (fun vs H1 => liftA X.K W tk σ H1 fun zs H2 => vs.length = n ∧ zs.length = m ∧ spD X.K g (pmX ix (vs ++ (dvs.map dfV ++ zs))) H2 Q fun cls d H' => W cls d σ H') I
    ⟨z, ρ, M, _, E, hs, hm2, h, fun ds M1 vs H1 h1 m1 r1 e1 => ⟨z, ρ, M1, _, E, hs.ext e1, m1, h1, fun es M2 zs H2 h2 m2 r2 e2 => ⟨(r1.length).trans h2.1, (r2.length).trans h2.2.1, z, _, M2, R, _, pmX_rel ((e2.all r1).append ((df_rels hdv).append r2)) ix, m2, h2.2.2, hc.ext (e1.trans e2), fun x M' cls d H' a b c f => hE x ρ M' cls d σ H' a b (hs.ext ((e1.trans e2).trans f)) c ((e1.trans e2).trans f)⟩, hE.ext e1⟩, hE⟩) fun us s1 ⟨vs, H1, I1, r, q⟩ => ?_) hpl he
  refine thn (hkw.run pos pins s1 σ H1 _ I1 q) fun ws s2 ⟨zs, H2, I2, rz, l1, l2, q2⟩ => ⟨I2.kIn, ?_⟩
  rw [hks]
  exact callN_end FD hr hG tt hdv rT hb I2 r rz l1 (l2.trans hm.symm) q2
theorem de_callN0 (dd : DfD X.prog X.w X.K X.mg X.base x y st dvs ps k g) (hr : Room k X.A) (hG : X.A.guards = some []) (tt : Takes X W) (hbn : BnD st y ps ks 0 dvs.length ix) (hm : ks.length = m) (hkw : DK X W kws tk)
    (hdv : dvs.all dfOk = true := by decide)
    (hall : (backToKw pos (keywordEach kws X.env)).all (·.1.isSome) = true := by rfl) (hks : (backToKw pos (keywordEach kws X.env)).filterMap (·.1) = ks := by rfl)
    (hg : Gl X x := by rfl) (hdb : (x == ("__debug__" : Str)) = false := by decide)
    (hpl : ((backTo pos (starEach [] X.env)).any (·.1) || (backToKw pos (keywordEach kws X.env)).any (·.1.isNone)) = false := by rfl) :
    DE X W (.Call (.Name x p) [] kws pos) (dCallN 0 m ix dvs g dNil tk) := by
  obtain ⟨f, fd, hmg, F, FD⟩ := dd.ex
  obtain ⟨its, rT, hb⟩ := knD F (ps := ps) (ks := ks) (n := 0) (ix := ix) (by rw [List.length_map]; exact hbn)
  refine ⟨fun pins s σ H Q I ⟨z, ρ, M, R, E, hs, hm2, h, hc, hE⟩ => ?_⟩
  refine wpAny_Call_Name_kw (ld_glob I hg hmg ?_ hdb)
  refine PySem.W.callWith_KW0 (h₀ := X.base) I.ok.mod.kin F.kp hall (thn (hkw.run pos pins s σ H (fun zs H2 => zs.length = m ∧ spD X.K g (pmX ix ([] ++ (dvs.map dfV ++ zs))) H2 Q fun cls d H' => W cls d σ H') I
    ⟨z, ρ, M, _, E, hs, hm2, h, fun es M2 zs H2 h2 m2 r2 e2 => ⟨(r2.length).trans h2.2.1, z, _, M2, R, _, pmX_rel (RelA.append RelA.nil ((df_rels hdv).append r2)) ix, m2, h2.2.2, hc.ext e2, fun x M' cls d H' a b c f => hE x ρ M' cls d σ H' a b (hs.ext (e2.trans f)) c (e2.trans f)⟩, hE⟩) fun ws s2 ⟨zs, H2, I2, rz, l2, q2⟩ => ⟨I2.kIn, ?_⟩) hpl
  rw [hks]
  exact callN_end FD hr hG tt hdv rT hb I2 .nil rz rfl (l2.trans hm.symm) q2
theorem v_callN {ρ : Sl} {R : PD} {E : XP} {M : MS} : dCallN n m ix dvs g t tk ρ R E M = t ρ (fun ds M1 => tk ρ (fun es M2 => ds.length = n ∧ es.length = m ∧ g (pmX ix (ds ++ (dvs ++ es))) R (fun x M' => E x ρ M') M2) E M1) E M := (rfl)
/-- the def of a global name as a value -/
def FnV (K : PySem.W.Frag) (mg : Str → Option Value) (x : Str) : Prop := ∃ f, mg x = some (.ref f) ∧ PySem.W.nsIn K mainGlobals x = some (some (.ref f))
theorem de_fn {x : Str} {pos : Pos} (h : FnV X.K X.mg x) (hg : Gl X x := by rfl) (hd : (x == ("__debug__" : Str)) = false := by decide) : DE X W (.Name x pos) (dC (.fn x)) := by
  obtain ⟨f, h1, h2⟩ := h
  exact de_c (pe_glob (v := .ref f) hg h1 rfl hd) fun _ _ _ => .fn h2
/-- the defs that a local may stand for -/
def TkV (P : Program) (w : World) (K : PySem.W.Frag) (mg : Str → Option Value) (base : Heap) (rows : List (Str × G)) (ps : List Str) (k : Nat) : Prop := ∀ x g, (x, g) ∈ rows → Df P w K mg base x ps k g
theorem tv_nil {P : Program} {w : World} {K : PySem.W.Frag} {mg : Str → Option Value} {base : Heap} {ps : List Str} {k : Nat} : TkV P w K mg base [] ps k := fun _ _ h => (List.not_mem_nil h).elim
theorem tv_cons {P : Program} {w : World} {K : PySem.W.Frag} {mg : Str → Option Value} {base : Heap} {rows : List (Str × G)} {ps : List Str} {k : Nat} {x : Str} {g : G} (D : Df P w K mg base x ps k g) (h : TkV P w K mg base rows ps k) :
    TkV P w K mg base ((x, g) :: rows) ps k := fun y g' hy => by
  rcases List.mem_cons.mp hy with e | hy
  · cases e
    exact D
  · exact h y g' hy
theorem Df.mono {P : Program} {w : World} {K : PySem.W.Frag} {mg : Str → Option Value} {base : Heap} {ps ps' : List Str} {j k : Nat} {x : Str} {g : G} (D : Df P w K mg base x ps j g) (h : j ≤ k) : Df P w K mg base x ps k g := by
  obtain ⟨f, fd, h1, h2, h3, F⟩ := D.ex
  exact ⟨f, fd, h1, h2, h3, F.mono h⟩
/-- how many parameters there are, their names left open -/
def DfA (P : Program) (w : World) (K : PySem.W.Frag) (mg : Str → Option Value) (base : Heap) (rows : List (Str × G)) (k : Nat) : Prop := ∀ x g, (x, g) ∈ rows → ∃ ps, Df P w K mg base x ps k g
theorem ta_nil {P : Program} {w : World} {K : PySem.W.Frag} {mg : Str → Option Value} {base : Heap} {k : Nat} : DfA P w K mg base [] k := fun _ _ h => (List.not_mem_nil h).elim
theorem ta_cons {P : Program} {w : World} {K : PySem.W.Frag} {mg : Str → Option Value} {base : Heap} {rows : List (Str × G)} {ps : List Str} {j k : Nat} {x : Str} {g : G} (D : Df P w K mg base x ps j g) (hk : j ≤ k) (h : DfA P w K mg base rows k) :
    DfA P w K mg base ((x, g) :: rows) k := fun y g' hy => by
  rcases List.mem_cons.mp hy with e | hy
  · cases e
    exact ⟨ps, Df.mono (ps' := ps) D hk⟩
  · exact h y g' hy
def dCallV (rows : List (Str × G)) (tk : DTE) (t : DTA) : DTE := fun ρ R E M => tk ρ (fun d M1 => match d with
  | .fn z => ∃ g, (z, g) ∈ rows ∧ t ρ (fun ds M2 => g ds R (fun x M' => E x ρ M') M2) E M1
  | _ => False) E M
theorem v_callV {rows : List (Str × G)} {tk : DTE} {ρ : Sl} {R : PD} {E : XP} {M : MS} : dCallV rows tk t ρ R E M = tk ρ (fun d M1 => match d with
  | .fn z => ∃ g, (z, g) ∈ rows ∧ t ρ (fun ds M2 => g ds R (fun x M' => E x ρ M') M2) E M1
  | _ => False) E M := (rfl)
/-- a(..) of a local a that stands for a def -/
theorem de_callV {rows : List (Str × G)} {tk : DTE} {a : Str} (T : DfA X.prog X.w X.K X.mg X.base rows k) (hr : Room k X.A) (hG : X.A.guards = some []) (tt : Takes X W) (hv : DE X W (.Name a p) tk) (ha : DA X W (e :: es) t)
    (he : starEach (e :: es) X.env = (false, eval e X.env) :: starEach es X.env := by rfl) (hpl : (backTo pos (starEach es X.env)).any (·.1) = false := by rfl) :
    DE X W (.Call (.Name a p) (e :: es) [] pos) (dCallV rows tk t) := by
  refine ⟨fun pins s σ H Q I ⟨z, ρ, M, R, E, hs, hm2, h, hc, hE⟩ => ?_⟩
  have h1 : lift X.K W tk σ H (fun y H1 => ∃ f fd g ps, y = .ref f ∧ PySem.W.keepIn X.K (.ref f) = true ∧ Binds X.K fd ps [] ∧ FnD X.prog X.w X.K X.mg X.base k f fd ps g ∧
      liftA X.K W t σ H1 (fun vs H2 => spD X.K g vs H2 Q fun cls d H' => W cls d σ H')) := by
    refine ⟨z, ρ, M, _, E, hs, hm2, h, fun dv M1 v H1 h1 m1 r1 e1 => ?_, hE⟩
    simp only at h1
    split at h1
    · obtain ⟨g, hmem, h2⟩ := h1
      cases r1 with
      | fn hx =>
        obtain ⟨ps, D⟩ := T _ _ hmem
        obtain ⟨f, fd, e1', e2, e3, F⟩ := D.ex
        have hmg := PySem.W.mg_of I.ok.mod.kin I.ok.mod.glob hx
        rw [hmg] at e1'
        cases e1'
        exact ⟨_, fd, g, ps, rfl, e2, e3, F, z, ρ, M1, _, E, hs.ext e1, m1, h2, fun ds M2 vs H2 g2 m2 r2 e2 => ⟨z, ds, M2, R, _, r2, m2, g2, hc.ext (e1.trans e2), fun x M' cls d H' a b c f => hE x ρ M' cls d σ H' a b (hs.ext ((e1.trans e2).trans f)) c ((e1.trans e2).trans f)⟩, hE.ext e1⟩
    · exact h1.elim
  refine wpAny_Call_Name_kw (thn (hv.run pins s σ H _ I h1) fun u s1 ⟨y, H1, I1, ry, f, fd, g, ps, ey, kk, hb, F, q⟩ => ?_)
  subst ey
  obtain rfl : u = Value.ref f := ry
  refine PySem.W.callWith_K (h₀ := X.base) I1.ok.mod.kin kk (thn (ha.run pos pins s1 σ H1 _ I1 q) fun us s2 ⟨vs, H2, I2, r, q2⟩ => ⟨I2.kIn, ?_⟩) he hpl
  have hl : us.length = ps.length := by
    obtain ⟨z, ds, M1, R1, RE, ra, _, gg, _⟩ := q2
    rw [← r.length, ra.length]
    exact F.len _ _ _ _ gg
  have bb := hb s2 us I2.kIn (by rw [List.append_nil]; exact hl)
  rw [List.append_nil] at bb
  refine wpAny_call (codeAny_mono (F.run X.A X.stack s2 H2 ⟨us, []⟩ us vs Q _ hr hG I2.env0 bb r q2) fun res s' hq => ?_)
  cases res with
  | error e' => exact passAt tt σ pins H2 s2 e' s' I2 hq
  | ok fl =>
    cases fl with
    | ret u => exact I2.after hq
    | next => exact False.elim hq
    | brk => exact False.elim hq
    | cont => exact False.elim hq
theorem q_and1 {i : Int} {R : PD} {M : MS} : andD (.int i) (.int 1) R M = R (.int (i % 2)) M := by
  show R (.int (Builtin.bitAnd i 1)) M = _
  rw [bitAnd_m1]
end
end L2.DL
/-! DLzo: sorted(set(xs)), xs a list of pairs of whole numbers -/
namespace L2
open PySem PySem.Spec PyProof.Rows
def prI (ns : List Int) : Int × Int := (ns.getD 0 0, ns.getD 1 0)
section
variable {P : Program} {w : World} {A : Around} {E : Value → Shared → Prop} {s : Shared}
theorem isPair_of {h : Heap} {k : List Int} {b : Addr} (x : IsT P w h k b) (hk : k.length = 2) : TS.intsOf h (.ref b) = k ∧ Srt.IsPair h (.ref b) (prI k).1 (prI k).2 := by
  refine ⟨(tupInts_of x).ints, ?_⟩
  obtain ⟨o, items, n, ho, hc, hd, hi⟩ := x
  obtain ⟨its⟩ := items
  have hi' : ItemsAre (intKind P w) k its := hi
  clear hi
  match k, its, hk, hi', hd with
  | [x, y], [_, _], _, .cons h1 (.cons h2 .nil), hd =>
    obtain ⟨t, rfl⟩ := Value.isInt_shape h1
    obtain ⟨u, rfl⟩ := Value.isInt_shape h2
    exact ⟨b, o, t, u, n, rfl, ho, hc, hd⟩
theorem sorted_setP {a : Addr} {L : List (Addr × List Int)} {es : Array (Int × Value)} {ep : Nat} {t : SetTable} {Q : Value → Shared → Prop} (R : SetTR P w s.heap a L es ep t) (hh : A.handled = none)
    (hB : ∀ p ∈ L, p.2.length = 2)
    (hQ : ∀ s' p (out : Array Value) (c : Nat) (L' : List (Addr × List Int)), (∀ b o, s.heap.get? b = some o → s'.heap.get? b = some o) → s'.gens = s.gens → s'.os = s.os → s.heap.objs.size ≤ p →
      s'.heap.get? p = some (seqObj "list" out c) → out.toList = L'.map (fun q => Value.ref q.1) → L'.Perm L → L'.Pairwise (fun q r => SrtO.lexB (prI r.2) (prI q.2) = false) → Q (.ref p) s') :
    wpAny (model P w) A (call (.builtin "sorted") [.ref a]) Q E s := by
  obtain ⟨o, ho, hex, hd⟩ := R.ob
  have hsz := R.size
  have hfew := R.few
  refine Calls.call_function_entry kind_sorted plain_sorted entry_sorted (args_sorted1 _) ?_
  unfold Builtin.«sorted»
  refine wpAny_bind (m := checkCount "sorted" 1 1 _) (wpAny_pure ?_)
  refine wpAny_bind (collect_set (A := A.in1) hh ⟨o, ho, hex.1, hd⟩ R.fits (by unfold scanBound; omega) R.tab.ris R.led fun s1 vs k1 hz g1 o1 pm => ?_)
  have hes : es.toList.map (·.2) = L.map fun q => Value.ref q.1 := by
    rw [R.rows]
    unfold rowsOf
    rw [List.map_map] <;> rfl
  rw [hes] at pm
  have ord : ∀ vs : List Value, (∀ v ∈ vs, ∃ q ∈ L, v = Value.ref q.1) → ∃ L1 : List (Addr × List Int), vs = L1.map (fun q => Value.ref q.1) ∧ ∀ q ∈ L1, q ∈ L := by
    intro vs
    induction vs with
    | nil => intro _; exact ⟨[], rfl, fun q hq => (by cases hq)⟩
    | cons v vs ih =>
      intro hv
      obtain ⟨q, hq, e⟩ := hv v List.mem_cons_self
      obtain ⟨L1, e1, hs⟩ := ih fun u hu => hv u (List.mem_cons_of_mem _ hu)
      refine ⟨q :: L1, by rw [List.map_cons, e, e1], fun r hr => ?_⟩
      rcases List.mem_cons.mp hr with z | z
      · rw [z]; exact hq
      · exact hs r z
  have one : ∀ q ∈ L, ∀ r ∈ L, q.1 = r.1 → q = r := fun q hq r hr e => by
    have a1 := R.tup q hq
    have a2 := R.tup r hr
    rw [e] at a1
    have e2 : q.2 = r.2 := a1.inj a2
    exact Prod.ext e e2
  have perm_of : ∀ L1 : List (Addr × List Int), (∀ q ∈ L1, q ∈ L) → (L1.map (fun q => Value.ref q.1)).Perm (L.map fun q => Value.ref q.1) → L1.Perm L := by
    intro L1 hs pm1
    have nL : L.Nodup := nodup_of_map R.nd
    have nref : (L.map fun q => Value.ref q.1).Nodup := by
      refine List.pairwise_map.mpr (List.Pairwise.imp_of_mem (fun {q r} hq hr hne e => ?_) nL)
      injection e with e
      exact hne (one q hq r hr e)
    have n1 : L1.Nodup := nodup_of_map (pm1.nodup_iff.mpr nref)
    refine (List.perm_ext_iff_of_nodup n1 nL).mpr fun q => ⟨hs q, fun hq => ?_⟩
    have hm : Value.ref q.1 ∈ L1.map (fun q => Value.ref q.1) := pm1.mem_iff.mpr (List.mem_map.mpr ⟨q, hq, rfl⟩)
    obtain ⟨r, hr, e⟩ := List.mem_map.mp hm
    injection e with e
    rw [← one r (hs r hr) q hq e]
    exact hr
  have hvl : vs.length < 64 := by rw [pm.length_eq, List.length_map]; exact hfew
  have hvz : vs.length ≤ sizeLine := by rw [sizeLine_eq]; omega
  refine wpAny_bind (wpAny_newList ?_ hvz)
  have hoL : (s1.heap.push (seqObj "list" vs.toArray 0)).get? s1.heap.objs.size = some (seqObj "list" vs.toArray 0) := Heap.get?_push_size _ rfl
  let hh1 := s1.heap.push (seqObj "list" vs.toArray 0)
  let kf : Value → Int × Int := fun v => prI (TS.intsOf hh1 v)
  have tk : ∀ q ∈ L, IsT P w hh1 q.2 q.1 := fun q hq => isT_keep (R.tup q hq) fun b u e => Heap.get?_push_of_some _ (k1 b u e)
  have x : ∀ v ∈ vs, Srt.IsPair hh1 v (kf v).1 (kf v).2 := fun v hv => by
    obtain ⟨q, hq, e⟩ := List.mem_map.mp (pm.mem_iff.mp hv)
    have f := isPair_of (tk q hq) (hB q hq)
    rw [← e]
    show Srt.IsPair hh1 (.ref q.1) (prI (TS.intsOf hh1 (.ref q.1))).1 (prI (TS.intsOf hh1 (.ref q.1))).2
    rw [f.1]
    exact f.2
  refine wpAny_bind (wpAny_holding (wpAny_call_entry (s := { s1 with heap := hh1 }) slot_list_sort ⟨_, hoL, rfl⟩ entry_list_sort (SrtO.list_sort_ord (SrtO.swo_lex kf) hoL hvz (fun h2 =>
    SrtO.pairs_sortableO (s := { s1 with heap := hh1 }) (by omega) x fun o e => ?_) fun out a2 a1 => ⟨_, rfl, ?_⟩) (args_list_sort _)))
  · have e' : some o = some (seqObj "list" vs.toArray 0) := e.symm.trans hoL
    cases e'
    intro c
    exact absurd (Value.type.inj c) (by decide)
  obtain ⟨c, hc⟩ := sortedHeap_at (vs := vs) (out := out.toArray) hoL
  obtain ⟨L', e', hs'⟩ := ord out fun v hv => by
    obtain ⟨q, hq, e⟩ := List.mem_map.mp (pm.mem_iff.mp (a1.perm.mem_iff.mp hv))
    exact ⟨q, hq, e.symm⟩
  have pL : L'.Perm L := perm_of L' hs' (by rw [← e']; exact a1.perm.trans pm)
  have pw : L'.Pairwise (fun q r => SrtO.lexB (prI r.2) (prI q.2) = false) := by
    rw [e'] at a2
    refine List.Pairwise.imp_of_mem (fun {q r} hq hr hle => ?_) (List.pairwise_map.mp a2)
    have f1 := (isPair_of (tk q (hs' q hq)) (hB q (hs' q hq))).1
    have f2 := (isPair_of (tk r (hs' r hr)) (hB r (hs' r hr))).1
    rw [← f1, ← f2]
    exact hle
  refine wpAny_pure ⟨_, rfl, hQ _ s1.heap.objs.size out.toArray c L' (fun b u e => ?_) g1 o1 hz hc (by simpa using e') pL pw⟩
  have q := k1 b u e
  have hlt := Heap.lt_size q
  show (sortedHeap (s1.heap.push (seqObj "list" vs.toArray 0)) s1.heap.objs.size vs out.toArray).get? b = some u
  rw [sortedHeap_old (Nat.ne_of_lt hlt) (by rw [size_push']; exact Nat.lt_succ_of_lt hlt)]
  exact Heap.get?_push_of_some _ q
end
section
variable {X : Cx}
def rSortedPs (K : PySem.W.Frag) (P : Program) (w : World) : List V → Hp → VK → Prop := fun vs H Q => ∃ (a : Addr) (L : List (Addr × List Int)), vs = [V.ref a] ∧ H a = some (SetTO P w a L) ∧ (∀ p ∈ L, SqT K H p.1 (p.2.map V.int)) ∧
  (∀ p ∈ L, p.2.length = 2) ∧
  ∀ (L' : List (Addr × List Int)) (p : Addr), L'.Perm L → (L'.map (·.2)).Nodup → L'.Pairwise (fun q r => SrtO.lexB (prI r.2) (prI q.2) = false) → H p = none → Q (.ref p) (upd H p (.lst (L'.map fun q => V.ref q.1)))
theorem cr_sortedPs (hc : X.calm = true) : CallR X (.builtin "sorted") (rSortedPs X.K X.prog X.w) := by
  intro pins s σ H vs us Q I r h
  obtain ⟨a, L, rfl, ha, hk, hB, q⟩ := h
  have R0 : SetT0 X.prog X.w s.heap a L := (I.hok a _ ha).1
  obtain ⟨es, ep, t, R⟩ := R0.full fun p hp => I.isT (hk p hp)
  rw [Vals.ref1 r]
  refine sorted_setP R (I.ok.hd hc) hB fun s' p out c L' k g o hp hg hout pm pw => ?_
  have hfew : L'.length < 64 := by rw [pm.length_eq]; exact R.few
  have hlen : (L'.map fun q => V.ref q.1).length ≤ sizeLine := by rw [List.length_map, sizeLine_eq]; omega
  have hn : H p = none := I.hok.fresh hp
  have hv : Vals (L'.map fun q => V.ref q.1) out.toList := by rw [hout]; exact vals_of_refs L'
  have J : Inv X pins σ (upd H p (.lst (L'.map fun q => V.ref q.1))) { s with heap := s'.heap, gens := s'.gens, drawn := s'.drawn, toks := s'.toks } :=
    I.call (ch := []) (Un.laid k hp hn) (I.hok.laid k hp ⟨hlen, out.toList, c, hv, hg⟩) (by rw [g]; exact I.bare) (fun _ z => nomatch z)
  have e : s' = { s with heap := s'.heap, gens := s'.gens, drawn := s'.drawn, toks := s'.toks } := by
    cases s'
    cases s
    cases o
    rfl
  rw [e]
  exact ⟨.ref p, _, J, rfl, q L' p pm ((pm.map (·.2)).nodup_iff.mpr R.nd) pw hn⟩
end
end L2
namespace L2.DL
open PySem PySem.Spec PyProof.Rows
variable [Tbs]
theorem room64 {k : Nat} {A : Around} (r : Room k A) : A.units + 64 < cLine := by have := r.un; omega
/-- a pair of whole numbers -/
def dPr (p : Int × Int) : D := .tup [.int p.1, .int p.2]
/-- what sorted(set(xs)) gives -/
def sSetD (d : D) (R : PD) (M : MS) : Prop := ∃ ps : List (Int × Int), Ls M d (ps.map dPr) ∧ ps.length < 64 ∧
  ∀ qs : List (Int × Int), qs.Nodup → (∀ x, x ∈ qs ↔ x ∈ ps) → qs.Pairwise (fun a b => a.1 < b.1 ∨ (a.1 = b.1 ∧ a.2 < b.2)) → R (.lst (qs.map dPr)) M
def dSortSet (te : DTE) : DTE := fun ρ R E M => te ρ (fun d M1 => sSetD d R M1) E M
theorem keys_of {K : ZK} {H : Hp} {M : MS} : ∀ {ps : List (Int × Int)} {vs : List V}, RelA K H M vs (ps.map dPr) → ∃ ks : List (Addr × List Int), vs = (ks.map fun p => V.ref p.1) ∧ ks.map (·.2) = ps.map (fun p => [p.1, p.2]) ∧ ∀ p ∈ ks, SqT K.K H p.1 (p.2.map V.int)
  | [], _, h => by cases h; exact ⟨[], rfl, rfl, fun _ z => by cases z⟩
  | p :: ps, _, h => by
    cases h with
    | cons a b =>
      obtain ⟨ks, e, e2, hk⟩ := keys_of (ps := ps) b
      cases a with
      | @tup t us ds st ra =>
        have eu := RelA.ints (ns := [p.1, p.2]) ra
        subst eu
        exact ⟨(t, [p.1, p.2]) :: ks, by rw [e]; rfl, by rw [List.map_cons, e2]; rfl, fun q hq => by
          rcases List.mem_cons.mp hq with z | z
          · rw [z]; exact st
          · exact hk q z⟩
theorem relA_of_keys {K : ZK} {H : Hp} {M : MS} : ∀ (ks : List (Addr × List Int)), (∀ p ∈ ks, SqT K.K H p.1 (p.2.map V.int)) → (∀ p ∈ ks, p.2.length = 2) → RelA K H M (ks.map fun p => V.ref p.1) ((ks.map fun p => prI p.2).map dPr)
  | [], _, _ => .nil
  | (t, ns) :: ks, h1, h2 => by
    refine .cons ?_ (relA_of_keys ks (fun p hp => h1 p (List.mem_cons_of_mem _ hp)) fun p hp => h2 p (List.mem_cons_of_mem _ hp))
    have e := h2 (t, ns) List.mem_cons_self
    have s := h1 (t, ns) List.mem_cons_self
    match ns, e with
    | [x, y], _ => exact .tup s relA_ints
theorem prI_pair {ns : List Int} (h : ns.length = 2) : ns = [(prI ns).1, (prI ns).2] := by
  match ns, h with
  | [x, y], _ => rfl
section
variable {X : Cx} {W : WX} {e : Expr} {te : DTE} {p p2 q pos : Pos}
theorem de_sortSet (hc : X.calm = true) (hu : X.A.units + 64 < cLine) (he : DE X W e te) (hm : X.mg "sorted" = none) (hm2 : X.mg "set" = none) (hg : Gl X "sorted" := by rfl) (hg2 : Gl X "set" := by rfl)
    (hv : bootBuiltins "sorted" = some (.builtin "sorted") := by decide +kernel) (hv2 : bootBuiltins "set" = some (.type "set") := by decide +kernel)
    (hs1 : starEach [e] X.env = (false, eval e X.env) :: starEach [] X.env := by rfl) (hs2 : (backTo q (starEach [] X.env)).any (·.1) = false := by rfl) :
    DE X W (.Call (.Name "sorted" p) [.Call (.Name "set" p2) [e] [] q] [] pos) (dSortSet te) := by
  refine imp (pe_callB (cr_sortedPs hc) hg hm hv (pa_cons (pe_callTy (cr_setOfT hc hu) hg2 hm2 hv2 (pa_cons he pa_nil hs1) (by decide) (by decide) hs1 hs2) pa_nil)) fun σ H Q ⟨z, ρ, M, R, E, hs, hm, h, hcn, hE⟩ => ?_
  refine ⟨z, ρ, M, _, E, hs, hm, h, fun d M1 v H1 h1 m1 r1 e1 => ?_, hE⟩
  obtain ⟨ps, hl, h64, q⟩ := h1
  obtain ⟨a, vs, rfl, ea, ra⟩ := ls_at m1 hl r1
  obtain ⟨ks, rfl, ek, hk⟩ := keys_of ra
  have hlk : ks.length = ps.length := by
    have := congrArg List.length ek
    simpa using this
  refine ⟨a, ks, rfl, SqL.of ea, hk, by omega, fun b L hb hL1 hL2 => ?_⟩
  have hL3 : ∀ p ∈ L, p.2.length = 2 := fun p hp => by
    have hm := List.mem_map_of_mem (f := (·.2)) (hL1 p hp)
    rw [ek] at hm
    obtain ⟨u, _, eu⟩ := List.mem_map.mp hm
    rw [← eu] <;> rfl
  have x1 := ext_new m1 (o := SetTO X.prog X.w b L) hb
  have m2 := relM_new m1 (o := SetTO X.prog X.w b L) hb
  have rL := x1.all (relA_of_keys L (fun p hp => hk p (hL1 p hp)) hL3)
  have kL : ∀ p ∈ L, SqT X.K (upd H1 b (SetTO X.prog X.w b L)) p.1 (p.2.map V.int) := by
    intro p hp
    have r := x1 _ _ (Rel.tup (M := M1) (ds := p.2.map D.int) (hk p (hL1 p hp)) relA_ints)
    cases r with
    | tup s r2 =>
      rw [r2.ints] at s
      exact s
  refine ⟨b, L, rfl, upd_same, kL, hL3, fun L' c hp hnd hpw hn => ?_⟩
  have x2 := ext_new m2 (o := .lst (L'.map fun q => V.ref q.1)) hn
  have m3 := relM_new m2 (o := .lst (L'.map fun q => V.ref q.1)) hn
  have hL4 : ∀ p ∈ L', p.2.length = 2 := fun p hq => hL3 p (hp.mem_iff.mp hq)
  have rL' := x2.all (relA_of_keys L' (fun p hq => kL p (hp.mem_iff.mp hq)) hL4)
  have rr : Rel ⟨X.K, z⟩ (upd (upd H1 b (SetTO X.prog X.w b L)) c (.lst (L'.map fun q => V.ref q.1))) M1 (.ref c) (.lst ((L'.map fun p => prI p.2).map dPr)) :=
    .lst (fz_new m2 hn) rL'
  refine hcn _ _ _ _ (q (L'.map fun p => prI p.2) ?_ (fun x => ?_) ?_) m3 rr (e1.trans (x1.trans x2))
  · refine List.pairwise_map.mpr (List.Pairwise.imp_of_mem (fun {a b} ha hb hne e => hne ?_) (List.pairwise_map.mp hnd))
    rw [prI_pair (hL4 a ha), prI_pair (hL4 b hb), e]
  · have f : x ∈ (L'.map fun p => prI p.2) ↔ [x.1, x.2] ∈ L'.map (·.2) := by
      constructor
      · intro hx
        obtain ⟨p, hq, rfl⟩ := List.mem_map.mp hx
        exact List.mem_map.mpr ⟨p, hq, prI_pair (hL4 p hq)⟩
      · intro hx
        obtain ⟨p, hq, ee⟩ := List.mem_map.mp hx
        refine List.mem_map.mpr ⟨p, hq, ?_⟩
        show prI p.2 = x
        rw [show p.2 = [x.1, x.2] from ee] <;> rfl
    rw [f]
    have g : x ∈ ps ↔ [x.1, x.2] ∈ ks.map (·.2) := by
      rw [ek]
      constructor
      · intro hx
        exact List.mem_map.mpr ⟨x, hx, rfl⟩
      · intro hx
        obtain ⟨u, hu, ee⟩ := List.mem_map.mp hx
        injection ee with e1 e2
        injection e2 with e2 _
        have : u = x := Prod.ext e1 e2
        exact this ▸ hu
    rw [g]
    constructor
    · intro hx
      obtain ⟨p, hq, ee⟩ := List.mem_map.mp hx
      exact List.mem_map.mpr ⟨p, hL1 p (hp.mem_iff.mp hq), ee⟩
    · intro hx
      obtain ⟨p, hq, ee⟩ := List.mem_map.mp hx
      have h2 := hL2 p hq
      obtain ⟨r, hr, er⟩ := List.mem_map.mp h2
      exact List.mem_map.mpr ⟨r, hp.mem_iff.mpr hr, er.trans ee⟩
  · refine List.pairwise_map.mpr ?_
    have hnd' := List.pairwise_map.mp hnd
    refine List.Pairwise.imp_of_mem (fun {a b} ha hb hh => ?_) (hpw.and hnd')
    have h1 := SrtO.lexB_no.mp hh.1
    have h2 : prI a.2 ≠ prI b.2 := fun e => hh.2 (by rw [prI_pair (hL4 a ha), prI_pair (hL4 b hb), e])
    have h3 : ¬ ((prI a.2).1 = (prI b.2).1 ∧ (prI a.2).2 = (prI b.2).2) := fun e => h2 (Prod.ext e.1 e.2)
    omega
end
section
variable {te : DTE} {ρ : Sl} {R : PD} {E : XP} {M : MS}
theorem v_sortSet : dSortSet te ρ R E M = te ρ (fun d M1 => sSetD d R M1) E M := (rfl)
end
end L2.DL
/-! DLzp: comparisons, min and max of two alike data (points and the like) -/
namespace L2
open PySem PySem.Spec PyProof.Rows
section
variable {prog : Program} {w : World} {A : Around} {E : Value → Shared → Prop} {s : Shared}
theorem readsAll2 {h : Heap} {a b : Value} {x y : PyData} {as bs : List Addr} (r1 : Reads h a x as) (r2 : Reads h b y bs) : ∃ cs, ReadsAll h [a, b] [x, y] cs := ⟨_, .cons r1 (.cons r2 .nil)⟩
theorem max_two_data {a b : Value} {x y : PyData} {as bs : List Addr} {Q : Value → Shared → Prop} (hh : A.handled = none) (r1 : Reads s.heap a x as) (r2 : Reads s.heap b y bs) (ha : PySem.W.AlikeAll [x, y]) (hu : A.units + 1 + PyData.depthAll [x, y] < cLine)
    (h : ∀ h' tk, (∀ b o, s.heap.get? b = some o → h'.get? b = some o) → Q (if PySem.W.dataLt x y then b else a) { s with heap := h', toks := tk }) :
    wpAny (model prog w) A (call (.builtin "max") [a, b]) Q E s := by
  have hname : (toString "max" ++ toString ".loop" : String) = "max.loop" := by decide
  refine call_function_tree F.kind_max F.plain_max F.entry_max (F.args_max2 _ _) ?_
  show wpAny _ A.in1 (Builtin.Builtins.bindParams "max" ["key", "default"] 0 ⟨[], []⟩ >>= _) _ _ s
  refine wpAny_bind (wpAny_of_eq (show Builtin.Builtins.bindParams "max" ["key", "default"] 0 ⟨[], []⟩ = pure [none, none] from rfl) ?_)
  show wpAny _ A.in1 (newTuple [a, b] >>= _) _ _ s
  refine wpAny_bind (wpAny_newObj_type ?_)
  have k0 : ∀ c o, s.heap.get? c = some o → (s.heap.push { cls := .type "tuple", data := .seq #[a, b] 0 }).get? c = some o := fun c o e => Heap.get?_push_of_some _ e
  obtain ⟨cs, hr⟩ := readsAll2 (PySem.W.reads_keeps (fun c o e => Heap.get?_push_of_some { cls := .type "tuple", data := .seq #[a, b] 0 } e) r1) (PySem.W.reads_keeps (fun c o e => Heap.get?_push_of_some { cls := .type "tuple", data := .seq #[a, b] 0 } e) r2)
  refine wpAny_bind (PySem.W.iter_tupleW (A := A.in1) (vs := #[a, b]) hh ⟨_, Heap.get?_push_size _ rfl, rfl, _, rfl⟩ fun s₂ e W hst hfp hw hk => ?_)
  refine wpAny_bind (wpAny_newObj_type ?_)
  rw [hname]
  have hSf := fun hm => Nat.lt_irrefl _ (hfp _ hm)
  have hcmp := PySem.W.cmpIn_gt (prog := prog) (w := w) (A := A.in1) (s := { s with heap := s.heap.push { cls := .type "tuple", data := .seq #[a, b] 0 } }) (vs := #[a, b]) hr ha (by show A.units + 1 + _ < _; exact hu)
  refine wpAny_pure ⟨plainId_quiet F.plain_max_loop _, codeAny_max_loop_firstH W _ hw _ hcmp s₂.heap.objs.size hSf (fresh_in hk) _ (show 0 < 2 from by decide) (fun b o e => Heap.get?_push_of_some _ (hk b o e)) (W.frame 0 s₂ _ s₂.toks hst (Nat.le_refl _) fun b _ o e => Heap.get?_push_of_some _ e) (Heap.get?_push_size _ rfl) fun v s' hP hm => ?_⟩
  have hm' := Moved.drop_new (tk := s₂.toks) hm (Nat.le_refl _)
  obtain ⟨h', tk, rfl, hk'⟩ := PySem.W.moved_old e rfl hm'
  have ev : v = if PySem.W.dataLt x y then b else a := by
    have e2 : argBest (fun i j => PySem.W.dataLt ([x, y].getD j .none) ([x, y].getD i .none)) 1 = if PySem.W.dataLt x y then 1 else 0 := rfl
    have hP' : (#[a, b] : Array Value)[argBest (fun i j => PySem.W.dataLt ([x, y].getD j .none) ([x, y].getD i .none)) 1]? = some v := hP
    rw [e2] at hP'
    by_cases hb : PySem.W.dataLt x y = true
    · rw [if_pos hb] at hP' ⊢
      exact (Option.some.inj hP').symm
    · rw [if_neg hb] at hP' ⊢
      exact (Option.some.inj hP').symm
  rw [ev]
  exact h h' tk fun b o e => hk' b o (k0 b o e)
theorem min_two_data {a b : Value} {x y : PyData} {as bs : List Addr} {Q : Value → Shared → Prop} (hh : A.handled = none) (r1 : Reads s.heap a x as) (r2 : Reads s.heap b y bs) (ha : PySem.W.AlikeAll [x, y]) (hu : A.units + 1 + PyData.depthAll [x, y] < cLine)
    (h : ∀ h' tk, (∀ b o, s.heap.get? b = some o → h'.get? b = some o) → Q (if PySem.W.dataLt y x then b else a) { s with heap := h', toks := tk }) :
    wpAny (model prog w) A (call (.builtin "min") [a, b]) Q E s := by
  have hname : (toString "min" ++ toString ".loop" : String) = "min.loop" := by decide
  refine call_function_tree F.kind_min F.plain_min F.entry_min (F.args_min2 _ _) ?_
  show wpAny _ A.in1 (Builtin.Builtins.bindParams "min" ["key", "default"] 0 ⟨[], []⟩ >>= _) _ _ s
  refine wpAny_bind (wpAny_of_eq (show Builtin.Builtins.bindParams "min" ["key", "default"] 0 ⟨[], []⟩ = pure [none, none] from rfl) ?_)
  show wpAny _ A.in1 (newTuple [a, b] >>= _) _ _ s
  refine wpAny_bind (wpAny_newObj_type ?_)
  have k0 : ∀ c o, s.heap.get? c = some o → (s.heap.push { cls := .type "tuple", data := .seq #[a, b] 0 }).get? c = some o := fun c o e => Heap.get?_push_of_some _ e
  obtain ⟨cs, hr⟩ := readsAll2 (PySem.W.reads_keeps (fun c o e => Heap.get?_push_of_some { cls := .type "tuple", data := .seq #[a, b] 0 } e) r1) (PySem.W.reads_keeps (fun c o e => Heap.get?_push_of_some { cls := .type "tuple", data := .seq #[a, b] 0 } e) r2)
  refine wpAny_bind (PySem.W.iter_tupleW (A := A.in1) (vs := #[a, b]) hh ⟨_, Heap.get?_push_size _ rfl, rfl, _, rfl⟩ fun s₂ e W hst hfp hw hk => ?_)
  refine wpAny_bind (wpAny_newObj_type ?_)
  rw [hname]
  have hSf := fun hm => Nat.lt_irrefl _ (hfp _ hm)
  have hcmp := PySem.W.cmpIn_lt (prog := prog) (w := w) (A := A.in1) (s := { s with heap := s.heap.push { cls := .type "tuple", data := .seq #[a, b] 0 } }) (vs := #[a, b]) hr ha (by show A.units + 1 + _ < _; exact hu)
  refine wpAny_pure ⟨plainId_quiet F.plain_min_loop _, codeAny_min_loop_firstH W _ hw _ hcmp s₂.heap.objs.size hSf (fresh_in hk) _ (show 0 < 2 from by decide) (fun b o e => Heap.get?_push_of_some _ (hk b o e)) (W.frame 0 s₂ _ s₂.toks hst (Nat.le_refl _) fun b _ o e => Heap.get?_push_of_some _ e) (Heap.get?_push_size _ rfl) fun v s' hP hm => ?_⟩
  have hm' := Moved.drop_new (tk := s₂.toks) hm (Nat.le_refl _)
  obtain ⟨h', tk, rfl, hk'⟩ := PySem.W.moved_old e rfl hm'
  have ev : v = if PySem.W.dataLt y x then b else a := by
    have e2 : argBest (fun i j => PySem.W.dataLt ([x, y].getD i .none) ([x, y].getD j .none)) 1 = if PySem.W.dataLt y x then 1 else 0 := rfl
    have hP' : (#[a, b] : Array Value)[argBest (fun i j => PySem.W.dataLt ([x, y].getD i .none) ([x, y].getD j .none)) 1]? = some v := hP
    rw [e2] at hP'
    by_cases hb : PySem.W.dataLt y x = true
    · rw [if_pos hb] at hP' ⊢
      exact (Option.some.inj hP').symm
    · rw [if_neg hb] at hP' ⊢
      exact (Option.some.inj hP').symm
  rw [ev]
  exact h h' tk fun b o e => hk' b o (k0 b o e)
end
section
variable {X : Cx}
/-- min, max of two alike data; f: the second stands before the first -/
def rTwoD (K : PySem.W.Frag) (f : PyData → PyData → Bool) : List V → Hp → VK → Prop := fun vs H Q => ∃ a b x y, vs = [a, b] ∧ Dp K H a x ∧ Dp K H b y ∧ PySem.W.AlikeAll [x, y] ∧ PyData.depthAll [x, y] ≤ 60 ∧ Q (if f x y then b else a) H
theorem relV_if {a b : V} {u v : Value} {c : Bool} (r1 : RelV a u) (r2 : RelV b v) : RelV (if c then b else a) (if c then v else u) := by cases c <;> assumption
theorem cr_max2D (hc : X.calm = true) (hu : X.A.units + 64 < cLine) : CallR X (.builtin "max") (rTwoD X.K fun x y => PySem.W.dataLt x y) := by
  intro pins s σ H vs us Q I r h
  obtain ⟨a, b, x, y, rfl, h1, h2, al, hd, q⟩ := h
  obtain ⟨u, w', rfl, ra, rb⟩ := vals2 r
  obtain ⟨as, r1⟩ := Dp.reads I x a u h1 ra
  obtain ⟨bs, r2⟩ := Dp.reads I y b w' h2 rb
  exact max_two_data (I.ok.hd hc) r1 r2 al (by omega) fun h' tk k => ⟨_, H, I.kept k, relV_if ra rb, q⟩
theorem cr_min2D (hc : X.calm = true) (hu : X.A.units + 64 < cLine) : CallR X (.builtin "min") (rTwoD X.K fun x y => PySem.W.dataLt y x) := by
  intro pins s σ H vs us Q I r h
  obtain ⟨a, b, x, y, rfl, h1, h2, al, hd, q⟩ := h
  obtain ⟨u, w', rfl, ra, rb⟩ := vals2 r
  obtain ⟨as, r1⟩ := Dp.reads I x a u h1 ra
  obtain ⟨bs, r2⟩ := Dp.reads I y b w' h2 rb
  exact min_two_data (I.ok.hd hc) r1 r2 al (by omega) fun h' tk k => ⟨_, H, I.kept k, relV_if ra rb, q⟩
/-- comparisons of two alike data -/
def rCmpD (K : PySem.W.Frag) (f : PyData → PyData → Bool) : R2 := fun a b H Q => ∃ x y, Dp K H a x ∧ Dp K H b y ∧ PySem.W.AlikeAll [x, y] ∧ PyData.depthAll [x, y] ≤ 60 ∧ Q (.bl (f x y)) H
theorem depth2 {x y : PyData} {n : Nat} (h : PyData.depthAll [x, y] ≤ n) : min x.depth y.depth ≤ n := by
  simp only [PyData.depthAll] at h
  omega
theorem op_cmpD {op : CmpOp} {f : PyData → PyData → Bool} (ho : ∀ a b, compareOp op a b = richCompare op a b)
    (hf : ∀ (da db : PyData) (A : Around) (s : Shared) (a b : Value) (as bs : List Addr), Reads s.heap a da as → Reads s.heap b db bs → PySem.W.alike da db = true → da ≠ .none → A.units + min da.depth db.depth < cLine → PySem.SeqAt.RcOp op A s a b (f da db))
    (hu : X.A.units + 64 < cLine) : OpR X (compareOp op) (rCmpD X.K f) := by
  intro pins s σ H a b u v Q I ra rb h
  obtain ⟨x, y, h1, h2, al, hd, q⟩ := h
  obtain ⟨as, r1⟩ := Dp.reads I x a u h1 ra
  obtain ⟨bs, r2⟩ := Dp.reads I y b v h2 rb
  rw [ho]
  exact hf x y X.A s u v as bs r1 r2 (al.1 _ (by simp) _ (by simp)) (al.2 _ (by simp)) (by have := depth2 hd; omega) _ _ _ _ ⟨.bl _, H, I, rfl, q⟩
end
end L2
namespace L2.DL
open PySem PySem.Spec PyProof.Rows
variable [Tbs]
def alikeT (x y : D) : Prop := isP x = true ∧ isP y = true ∧ PySem.W.AlikeAll [pd x, pd y] ∧ PyData.depthAll [pd x, pd y] ≤ 60
def cmpT (f : PyData → PyData → Bool) (x y : D) (R : PD) (M : MS) : Prop := alikeT x y ∧ R (.bl (f (pd x) (pd y))) M
def ltTD : D → D → PD → MS → Prop := cmpT fun x y => PySem.W.dataLt x y
def gtTD : D → D → PD → MS → Prop := cmpT fun x y => PySem.W.dataLt y x
def leTD : D → D → PD → MS → Prop := cmpT fun x y => !PySem.W.dataLt y x
def geTD : D → D → PD → MS → Prop := cmpT fun x y => !PySem.W.dataLt x y
theorem o_cmpT {X : Cx} {op : CmpOp} {f : PyData → PyData → Bool} (o : OpR X (compareOp op) (rCmpD X.K f)) : OpD X (compareOp op) (cmpT f) := by
  refine ⟨_, o, fun z H M x y vx vy R Q m rx ry h hc => ?_⟩
  obtain ⟨⟨p1, p2, al, hd⟩, q⟩ := h
  exact ⟨_, _, dp_of x _ p1 rx, dp_of y _ p2 ry, al, hd, hc.here q m (.bl _)⟩
theorem o_ltT {X : Cx} (hu : X.A.units + 64 < cLine) : OpD X (compareOp .Lt) ltTD := o_cmpT (op_cmpD (fun _ _ => rfl) PySem.W.rcLt_alike hu)
theorem o_gtT {X : Cx} (hu : X.A.units + 64 < cLine) : OpD X (compareOp .Gt) gtTD := o_cmpT (op_cmpD (fun _ _ => rfl) PySem.W.rcGt_alike hu)
theorem o_leT {X : Cx} (hu : X.A.units + 64 < cLine) : OpD X (compareOp .LtE) leTD := o_cmpT (op_cmpD (fun _ _ => rfl) PySem.W.rcLe_alike hu)
theorem o_geT {X : Cx} (hu : X.A.units + 64 < cLine) : OpD X (compareOp .GtE) geTD := o_cmpT (op_cmpD (fun _ _ => rfl) PySem.W.rcGe_alike hu)
def twoT (f : PyData → PyData → Bool) : List D → PD → MS → Prop
  | [x, y], R, M => alikeT x y ∧ R (if f (pd x) (pd y) then y else x) M
  | _, _, _ => False
def mn2D : List D → PD → MS → Prop := twoT fun x y => PySem.W.dataLt y x
def mx2D : List D → PD → MS → Prop := twoT fun x y => PySem.W.dataLt x y
theorem c_two {X : Cx} {id : String} {f : PyData → PyData → Bool} (h : CallR X (.builtin id) (rTwoD X.K f)) : CallD X (.builtin id) (twoT f) := by
  refine ⟨_, h, fun z H M xs vs R Q m ra h hc => ?_⟩
  unfold twoT at h
  split at h
  · rename_i x y
    cases ra with
    | cons r1 t =>
      cases t with
      | cons r2 t =>
        cases t
        obtain ⟨⟨p1, p2, al, hd⟩, q⟩ := h
        refine ⟨_, _, _, _, rfl, dp_of x _ p1 r1, dp_of y _ p2 r2, al, hd, ?_⟩
        cases hb : f (pd x) (pd y) with
        | true =>
          rw [hb] at q
          exact hc.here q m r2
        | false =>
          rw [hb] at q
          exact hc.here q m r1
  · exact h.elim
theorem c_min2 {X : Cx} (hc : X.calm = true) (hu : X.A.units + 64 < cLine) : CallD X (.builtin "min") mn2D := c_two (cr_min2D hc hu)
theorem c_max2 {X : Cx} (hc : X.calm = true) (hu : X.A.units + 64 < cLine) : CallD X (.builtin "max") mx2D := c_two (cr_max2D hc hu)
/-! points -/
def ltP (a b : Int × Int) : Prop := a.1 < b.1 ∨ (a.1 = b.1 ∧ a.2 < b.2)
instance (a b : Int × Int) : Decidable (ltP a b) := by unfold ltP; infer_instance
theorem lt_dPr (a b : Int × Int) : PySem.W.dataLt (pd (dPr a)) (pd (dPr b)) = decide (ltP a b) := PySem.W.dataLt_ii _ _ _ _
theorem alike_dPr (a b : Int × Int) : alikeT (dPr a) (dPr b) := by
  refine ⟨rfl, rfl, ⟨fun x hx y hy => ?_, fun x hx => ?_⟩, by simp [dPr, pd, pds, PyData.depthAll, PyData.depth]⟩
  · have h : ∀ z, z ∈ [pd (dPr a), pd (dPr b)] → ∃ i j, z = .tuple [.int i, .int j] := by
      intro z hz
      simp only [List.mem_cons, List.not_mem_nil, or_false] at hz
      rcases hz with rfl | rfl <;> exact ⟨_, _, rfl⟩
    obtain ⟨i, j, rfl⟩ := h x hx
    obtain ⟨k, l, rfl⟩ := h y hy
    simp only [PySem.W.alike, PySem.W.alikeAll, Bool.and_self]
  · simp only [List.mem_cons, List.not_mem_nil, or_false] at hx
    rcases hx with rfl | rfl <;> exact fun e => by cases e
section
variable {R : PD} {M : MS} {a b : Int × Int} {x y z w : Int}
theorem q_ltP (q : R (.bl (decide (ltP a b))) M) : ltTD (dPr a) (dPr b) R M := ⟨alike_dPr a b, (congrArg (fun c => R (.bl c) M) (lt_dPr a b)).mpr q⟩
theorem q_gtP (q : R (.bl (decide (ltP b a))) M) : gtTD (dPr a) (dPr b) R M := ⟨alike_dPr a b, (congrArg (fun c => R (.bl c) M) (lt_dPr b a)).mpr q⟩
theorem ite_dPr {c : Bool} {P : Prop} [Decidable P] (h : c = decide P) : (if c = true then dPr b else dPr a) = dPr (if P then b else a) := by
  subst h
  by_cases h : P
  · rw [if_pos h, if_pos (decide_eq_true h)]
  · rw [if_neg h, if_neg (fun z => h (of_decide_eq_true z))]
theorem q_min2P (q : R (dPr (if ltP b a then b else a)) M) : mn2D [dPr a, dPr b] R M := ⟨alike_dPr a b, (congrArg (fun d => R d M) (ite_dPr (lt_dPr b a))).mpr q⟩
theorem q_max2P (q : R (dPr (if ltP a b then b else a)) M) : mx2D [dPr a, dPr b] R M := ⟨alike_dPr a b, (congrArg (fun d => R d M) (ite_dPr (lt_dPr a b))).mpr q⟩
theorem q_minTP (q : R (dPr (if ltP b a then b else a)) M) : mnTD [.tup [dPr a, dPr b]] R M := by
  obtain ⟨h1, h2, h3, h4⟩ := alike_dPr a b
  refine ⟨rfl, pd (dPr a), [pd (dPr b)], rfl, h3, h4, fun e he ee => ?_⟩
  have e2 : PySem.W.minD (pd (dPr a)) [pd (dPr b)] = pd (dPr (if ltP b a then b else a)) := by
    show (if PySem.W.dataLt (pd (dPr b)) (pd (dPr a)) then pd (dPr b) else pd (dPr a)) = _
    rw [lt_dPr]
    by_cases h : ltP b a
    · rw [decide_eq_true h, if_pos h] <;> rfl
    · rw [decide_eq_false h, if_neg h] <;> rfl
  rw [e2] at ee
  have inj : ∀ u v : Int × Int, pd (dPr u) = pd (dPr v) → dPr u = dPr v := by
    intro u v e
    have e' : PyData.tuple [.int u.1, .int u.2] = PyData.tuple [.int v.1, .int v.2] := e
    injection e' with e1
    injection e1 with e2 e3
    injection e3 with e3 _
    injection e2 with e2
    injection e3 with e3
    rw [show u = v from Prod.ext e2 e3]
  simp only [List.mem_cons, List.not_mem_nil, or_false] at he
  rcases he with rfl | rfl
  · rw [inj _ _ ee]; exact q
  · rw [inj _ _ ee]; exact q
theorem q_maxTP (q : R (dPr (if ltP a b then b else a)) M) : mxTD [.tup [dPr a, dPr b]] R M := by
  obtain ⟨h1, h2, h3, h4⟩ := alike_dPr a b
  refine ⟨rfl, pd (dPr a), [pd (dPr b)], rfl, h3, h4, fun e he ee => ?_⟩
  have e2 : PySem.W.maxD (pd (dPr a)) [pd (dPr b)] = pd (dPr (if ltP a b then b else a)) := by
    show (if PySem.W.dataLt (pd (dPr a)) (pd (dPr b)) then pd (dPr b) else pd (dPr a)) = _
    rw [lt_dPr]
    by_cases h : ltP a b
    · rw [decide_eq_true h, if_pos h] <;> rfl
    · rw [decide_eq_false h, if_neg h] <;> rfl
  rw [e2] at ee
  have inj : ∀ u v : Int × Int, pd (dPr u) = pd (dPr v) → dPr u = dPr v := by
    intro u v e
    have e' : PyData.tuple [.int u.1, .int u.2] = PyData.tuple [.int v.1, .int v.2] := e
    injection e' with e1
    injection e1 with e2 e3
    injection e3 with e3 _
    injection e2 with e2
    injection e3 with e3
    rw [show u = v from Prod.ext e2 e3]
  simp only [List.mem_cons, List.not_mem_nil, or_false] at he
  rcases he with rfl | rfl
  · rw [inj _ _ ee]; exact q
  · rw [inj _ _ ee]; exact q
end
end L2.DL
/-! DLzq: dicts by whole numbers and texts: displays, d[k], d[k] = v, d.get(k, x); l.pop(), l.pop(i) -/
namespace L2.DL
open PySem PySem.Spec PyProof.Rows
variable [Tbs]
theorem room1 {k : Nat} {A : Around} (r : Room k A) : A.units + 1 < cLine := by have := r.un; omega
/-! displays -/
def dPairs : List (Key × DTE) → Sl → (List (Key × D) → MS → Prop) → XP → MS → Prop
  | [], _, R, _, M => R [] M
  | (k, te) :: r, ρ, R, E, M => te ρ (fun d M1 => dPairs r ρ (fun ps M2 => R ((k, d) :: ps) M2) E M1) E M
section
variable {X : Cx} {W : WX} {pos : Pos}
structure PPD (X : Cx) (W : WX) (pos : Pos) (keys : List (Option Expr)) (values : List Expr) (ts : List (Key × DTE)) : Prop where
  ex : ∃ trs, PPs X pos keys values trs ∧ ∀ (z : Hd) (ρ : Sl) (M : MS) (R : List (Key × D) → MS → Prop) (E : XP) (σ : St) (H : Hp) (Q : List (V × V) → Hp → Prop), RelS ⟨X.K, z⟩ H M σ ρ → RelM ⟨X.K, z⟩ H M → XOk ⟨X.K, z⟩ H M W E → dPairs ts ρ R E M →
    (∀ kvs M' ws H', R kvs M' → RelM ⟨X.K, z⟩ H' M' → RelK ⟨X.K, z⟩ H' M' ws kvs → kvs.map (·.1) = ts.map (·.1) → Ext ⟨X.K, z⟩ H M H' M' → Q (ws.map fun kv => (kV kv.1, kv.2)) H') → tPairs trs σ H Q
theorem ppd_nil : PPD X W pos [] [] [] := ⟨[], pps_nil, fun z ρ M R E σ H Q hs hm hx h c => c [] M [] H h hm .nil rfl .refl⟩
theorem ppd_cons {k : Key} {ke ve : Expr} {ks : List (Option Expr)} {vs : List Expr} {te : DTE} {ts : List (Key × DTE)} (hk : DE X W ke (dC (eK k))) (hv : DE X W ve te) (hr : PPD X W pos ks vs ts) : PPD X W pos (some ke :: ks) (ve :: vs) ((k, te) :: ts) := by
  obtain ⟨trs, hp, ad⟩ := hr
  refine ⟨_, pps_cons hk hv hp, fun z ρ M R E σ H Q hs hm hx h c => ?_⟩
  refine ⟨z, ρ, M, fun d M1 => d = eK k ∧ te ρ (fun d M1 => dPairs ts ρ (fun ps M2 => R ((k, d) :: ps) M2) E M1) E M1, E, hs, hm, ⟨rfl, h⟩, fun d M1 v H1 h1 m1 r1 e1 => ?_, hx⟩
  obtain ⟨rfl, h1⟩ := h1
  have ev := eK_rel r1
  subst ev
  refine ⟨z, ρ, M1, _, E, hs.ext e1, m1, h1, fun d M2 w H2 h2 m2 r2 e2 => ?_, hx.ext e1⟩
  refine ad z ρ M2 _ E σ H2 _ (hs.ext (e1.trans e2)) m2 (hx.ext (e1.trans e2)) h2 fun kvs M3 ws H3 h3 m3 r3 ek e3 => ?_
  exact c _ M3 ((k, w) :: ws) H3 h3 m3 (.cons (e3 _ _ r2) r3) (by rw [List.map_cons, List.map_cons, ek]) (e1.trans (e2.trans e3))
/-- {k: v, ..} -/
def dDisp (ts : List (Key × DTE)) : DTE := fun ρ R E M => ∀ p, M p = none → dPairs ts ρ (fun kvs M' => M' p = some (.dk []) ∧ R (.ref p) (um M' p (.dk kvs))) E (um M p (.dk []))
theorem any_keys {κ : Type} [DecidableEq κ] : ∀ {acc : List (κ × D)} {k : κ}, k ∉ acc.map (·.1) → (acc.any fun kv => decide (kv.1 = k)) = false
  | [], _, _ => rfl
  | a :: acc, k, h => by
    rw [List.any_cons, any_keys (fun z => h (List.mem_cons_of_mem _ z)), Bool.or_false]
    exact decide_eq_false fun e => h (by rw [← e]; exact List.mem_cons_self)
theorem mergeM_new {κ : Type} [DecidableEq κ] : ∀ (more acc : List (κ × D)), ((acc ++ more).map (·.1)).Nodup → mergeM acc more = acc ++ more
  | [], acc, _ => by show acc = acc ++ []; rw [List.append_nil]
  | kv :: more, acc, h => by
    have e : putM acc kv.1 kv.2 = acc ++ [kv] := by
      unfold putM
      rw [if_neg]
      rw [any_keys]
      · exact Bool.false_ne_true
      · intro hm
        rw [List.map_append, List.nodup_append] at h
        exact h.2.2 _ hm _ (List.mem_cons_self) rfl
    show mergeM (putM acc kv.1 kv.2) more = _
    rw [e, mergeM_new more (acc ++ [kv]) (by rw [List.append_assoc]; exact h), List.append_assoc]
    rfl
theorem de_disp {keys : List (Option Expr)} {values : List Expr} {ts : List (Key × DTE)} (h : PPD X W pos keys values ts) (hnd : (ts.map (·.1)).Nodup) (hl2 : ts.length ≤ 15) (hall : keys.all (·.isSome) = true := by rfl) (hl : keys.length = values.length := by rfl) (h0 : keys ≠ [] := by exact fun z => nomatch z)
    (h15 : keys.length ≤ 15 := by decide) : DE X W (.Dict keys values pos) (dDisp ts) := by
  obtain ⟨trs, hp, ad⟩ := h
  refine imp (pe_disp hp hall hl h0 h15) fun σ H Q ⟨z, ρ, M, R, E, hs, hm, h, hc, hE⟩ => fun p hn => ?_
  have m1 : RelM ⟨X.K, z⟩ (upd H p (.dK [])) (um M p (.dk [])) := relM_alloc hm hn ⟨[], upd_same, .nil⟩
  have x1 : Ext ⟨X.K, z⟩ H M (upd H p (.dK [])) (um M p (.dk [])) := ext_alloc hm hn
  refine ad z ρ _ _ E σ _ _ (hs.ext x1) m1 (hE.ext x1) (h p (hm.free hn)) fun kvs M' ws H' h2 m2 r2 ek e2 => ?_
  obtain ⟨e3, q⟩ := h2
  obtain ⟨vs0, eh, r0⟩ := m2.at' p _ e3
  cases r0
  refine ⟨eh, ws, rfl, by have := congrArg List.length ek; simp only [List.length_map] at this; rw [r2.length]; omega, ?_⟩
  have emm : mergeM [] kvs = kvs := mergeM_new kvs [] (by rw [List.nil_append, ek]; exact hnd)
  have x3 : Ext ⟨X.K, z⟩ H' M' (upd H' p (.dK (mergeK [] ws))) (um M' p (.dk kvs)) := ext_write m2 e3
  have rk : RelK ⟨X.K, z⟩ H' M' (mergeK [] ws) (mergeM [] kvs) := RelK.merge r2 .nil
  rw [emm] at rk
  exact hc _ _ _ _ q (relM_write m2 e3 ⟨_, upd_same, x3.keys rk⟩) (.ref p) (x1.trans (e2.trans x3))
def dDict0 : DTE := fun _ R _ M => ∀ p, M p = none → R (.ref p) (um M p (.dk []))
theorem de_dict0 : DE X W (.Dict [] [] pos) dDict0 :=
  imp pe_dnewK fun σ H Q ⟨z, ρ, M, R, E, hs, hm, h, hc, hE⟩ p hn =>
    hc _ _ _ _ (h p (hm.free hn)) (relM_alloc hm hn ⟨[], upd_same, .nil⟩) (.ref p) (ext_alloc hm hn)
end
/-! d[k] -/
def getKD : D → D → PD → MS → Prop
  | .ref a, i, R, M => ∃ k kvs d, i = eK k ∧ M a = some (.dk kvs) ∧ getM kvs k = some d ∧ R d M
  | _, _, _, _ => False
def dGetK (to ti : DTE) : DTE := fun ρ R E M => to ρ (fun o M1 => ti ρ (fun i M2 => getKD o i R M2) E M1) E M
def putKD : D → D → D → (MS → Prop) → MS → Prop
  | .ref a, i, d, q, M => ∃ k kvs, i = eK k ∧ M a = some (.dk kvs) ∧ kvs.length < sizeLine ∧ q (um M a (.dk (putM kvs k d)))
  | _, _, _, _, _ => False
def dPutK (te to ti : DTE) : DTS := fun De ρ M => te ρ (fun d M1 => to ρ (fun o M2 => ti ρ (fun i M3 => putKD o i d (fun M4 => De.nx ρ M4) M3) De.ex M2) De.ex M1) De.ex M
def get2KD : D → D → D → PD → MS → Prop
  | .ref a, i, x, R, M => ∃ k kvs, i = eK k ∧ M a = some (.dk kvs) ∧ R ((getM kvs k).getD x) M
  | _, _, _, _, _ => False
def isDk (M : MS) : D → Prop
  | .ref a => ∃ kvs, M a = some (.dk kvs)
  | _ => False
def dGet2K (to ti tx : DTE) : DTE := fun ρ R E M => to ρ (fun o M1 => isDk M1 o ∧ ti ρ (fun i M2 => tx ρ (fun x M3 => get2KD o i x R M3) E M2) E M1) E M
section
variable {X : Cx} {W : WX} {o i e x : Expr} {te to ti tx : DTE} {pos pos' apos : Pos}
theorem de_getK (hu : X.A.units + 1 < cLine) (ho : DE X W o to) (hi : DE X W i ti) (hs : NoSl i) : DE X W (.Subscript o i pos) (dGetK to ti) :=
  imp (pe_dget hu ho hi hs) fun σ H Q ⟨z, ρ, M, R, E, hs, hm, h, hc, hE⟩ =>
    ⟨z, ρ, M, _, E, hs, hm, h, fun oo M1 vo H1 h1 m1 r1 e1 => ⟨z, ρ, M1, _, E, hs.ext e1, m1, h1, fun ii M2 vi H2 h2 m2 r2 e2 => by
      have h2 : getKD oo ii R M2 := h2
      have r1' := e2 _ _ r1
      unfold getKD at h2
      split at h2
      · obtain ⟨k, kvs, d, rfl, ea, eg, q⟩ := h2
        obtain ⟨ws, eh, rk⟩ := m2.at' _ _ ea
        cases r1'
        have ev := eK_rel r2
        subst ev
        obtain ⟨v, e3, rv⟩ := rk.getS eg
        exact ⟨_, v, rfl, by rw [← e3]; exact DGet.k eh, hc _ _ _ _ q m2 rv (e1.trans e2)⟩
      · exact h2.elim, hE.ext e1⟩, hE⟩
theorem ds_putK (hu : X.A.units + 1 < cLine) (he : DE X W e te) (ho : DE X W o to) (hi : DE X W i ti) (hs : swapsWith e (some (.Subscript o i pos')) pos.line X.env = pure false := by rfl) : DS X W (.Assign [.Subscript o i pos'] e pos) (dPutK te to ti) :=
  impS (ps_dput hu ho hi he hs) fun De σ H ⟨z, ρ, M, Dd, hs, hm, h, L⟩ =>
    ⟨z, ρ, M, _, _, hs, hm, h, fun d M1 v H1 h1 m1 r1 e1 => ⟨z, ρ, M1, _, _, hs.ext e1, m1, h1, fun oo M2 vo H2 h2 m2 r2 e2 =>
      ⟨z, ρ, M2, _, _, hs.ext (e1.trans e2), m2, h2, fun ii M3 vi H3 h3 m3 r3 e3 => by
        have ro := e3 _ _ r2
        have rd := (e2.trans e3) _ _ r1
        have h3 : putKD oo ii d (fun M4 => Dd.nx ρ M4) M3 := h3
        cases oo with
        | ref a =>
          obtain ⟨k, kvs, rfl, ea, hl, q⟩ := h3
          obtain ⟨ws, eh, rk⟩ := m3.at' _ _ ea
          cases ro
          have ev := eK_rel r3
          subst ev
          have w : Ext ⟨X.K, z⟩ H3 M3 (upd H3 a (.dK (putK ws k v))) (um M3 a (.dk (putM kvs k d))) := ext_write m3 ea
          exact ⟨_, _, rfl, DPut.k eh (by rw [rk.length]; exact hl), L.nx _ _ _ _ q (relM_write m3 ea ⟨_, upd_same, w.keys (rk.put k rd)⟩) ((hs.ext (e1.trans (e2.trans e3))).ext w) (e1.trans (e2.trans (e3.trans w)))⟩
        | _ => exact (show False from h3).elim, L.ex.ext (e1.trans e2)⟩, L.ex.ext e1⟩, L.ex⟩
theorem getM_rel {κ : Type} [DecidableEq κ] {K : ZK} {H : Hp} {M : MS} {k : κ} : ∀ {ws : List (κ × V)} {kvs : List (κ × D)} {v : V} {d : D}, RelK K H M ws kvs → Rel K H M v d → Rel K H M ((valV ws k).getD v) ((getM kvs k).getD d)
  | _, _, v, d, .nil, r => r
  | _, _, v, d, .cons (k := k') (v := v') (d := d') (vs := vs) (ds := ds) a t, r => by
    by_cases c : k' = k
    · rw [valV_pos c, show getM ((k', d') :: ds) k = some d' by simp [getM, List.find?_cons, c]]
      exact a
    · rw [valV_neg c, show getM ((k', d') :: ds) k = getM ds k by simp [getM, List.find?_cons, c]]
      exact getM_rel t r
theorem de_get2K (hu : X.A.units + 1 < cLine) (ho : DE X W o to) (he : DE X W i ti) (hf : DE X W x tx) 
    (m : M2 X o "get" apos i x pos := by exact ⟨by rfl, by rfl, by rfl, by rfl⟩) : DE X W (.Call (.Attribute o "get" apos) [i, x] [] pos) (dGet2K to ti tx) :=
  imp (pe_dget2 hu ho he hf m) fun σ H Q ⟨z, ρ, M, R, E, hs, hm, h, hc, hE⟩ =>
    ⟨z, ρ, M, _, E, hs, hm, h, fun oo M1 vo H1 h1 m1 r1 e1 => by
      obtain ⟨hd, h1⟩ := h1
      have key : ∀ a kvs, oo = .ref a → M1 a = some (.dk kvs) → ∃ a', vo = .ref a' ∧ IsD H1 a' := by
        intro a kvs eo ea
        subst eo
        cases r1
        obtain ⟨ws, eh, rk⟩ := m1.at' _ _ ea
        exact ⟨_, rfl, .inl ⟨_, .inl eh⟩⟩
      obtain ⟨a, rfl, isd⟩ : ∃ a', vo = .ref a' ∧ IsD H1 a' := by
        cases oo with
        | ref a => obtain ⟨kvs, ea⟩ := hd; exact key a kvs rfl ea
        | _ => exact (show False from hd).elim
      refine ⟨a, rfl, isd, z, ρ, M1, _, E, hs.ext e1, m1, h1, fun ii M2 vi H2 h2 m2 r2 e2 => ⟨z, ρ, M2, _, E, hs.ext (e1.trans e2), m2, h2, fun xx M3 vx H3 h3 m3 r3 e3 => ?_, hE.ext (e1.trans e2)⟩, hE.ext e1⟩
      have h3 : get2KD oo ii xx R M3 := h3
      have r1' := (e2.trans e3) _ _ r1
      have r2' := e3 _ _ r2
      unfold get2KD at h3
      split at h3
      · obtain ⟨k, kvs, rfl, ea, q⟩ := h3
        obtain ⟨ws, eh, rk⟩ := m3.at' _ _ ea
        cases r1'
        have ev := eK_rel r2'
        subst ev
        exact ⟨_, DGet.k eh, hc _ _ _ _ q m3 (getM_rel rk r3) (e1.trans (e2.trans e3))⟩
      · exact h3.elim, hE⟩
end
/-! pop -/
def popD : D → List D → PD → MS → Prop
  | .ref a, [], R, M => ∃ ds y, M a = some (.lst (ds ++ [y])) ∧ R y (um M a (.lst ds))
  | _, _, _, _ => False
def popAtD : D → List D → PD → MS → Prop
  | .ref a, [.int i], R, M => ∃ ds y, M a = some (.lst ds) ∧ 0 ≤ i ∧ i < 2 ^ 63 ∧ ds[i.toNat]? = some y ∧ R y (um M a (.lst (ds.eraseIdx i.toNat)))
  | _, _, _, _ => False
theorem RelA.dropLast {K : ZK} {H : Hp} {M : MS} : ∀ {vs : List V} {ds : List D}, RelA K H M vs ds → RelA K H M vs.dropLast ds.dropLast
  | _, _, .nil => .nil
  | _, _, .cons _ .nil => .nil
  | _, _, .cons r (.cons r2 t) => .cons r (RelA.dropLast (.cons r2 t))
theorem RelA.eraseIdx {K : ZK} {H : Hp} {M : MS} : ∀ {vs : List V} {ds : List D} (n : Nat), RelA K H M vs ds → RelA K H M (vs.eraseIdx n) (ds.eraseIdx n)
  | _, _, _, .nil => .nil
  | _, _, 0, .cons _ t => t
  | _, _, n + 1, .cons r t => .cons r (RelA.eraseIdx n t)
theorem m_pop {X : Cx} : MtD X "list.pop" popD := by
  refine ⟨_, mt_pop, fun z H M x xs v vs R Q m rx ra h hc => ?_⟩
  unfold popD at h
  split at h
  · cases rx
    cases ra
    obtain ⟨ds, y, ea, q⟩ := h
    obtain ⟨ws, e1, r⟩ := m.at' _ _ ea
    have hg : (ds ++ [y])[ws.length - 1]? = some y := by
      rw [r.length, List.length_append, List.length_singleton, Nat.add_sub_cancel, List.getElem?_append_right (Nat.le_refl _), Nat.sub_self]
      rfl
    obtain ⟨u, eu, ru⟩ := r.get hg
    have rd := r.dropLast
    rw [List.dropLast_concat] at rd
    exact ⟨_, ws, u, rfl, rfl, e1, eu, hc _ _ _ _ q (write_lst m ea rd) ((ext_write m ea) _ _ ru) (ext_write m ea)⟩
  · exact h.elim
theorem m_popAt {X : Cx} : MtD X "list.pop" popAtD := by
  refine ⟨_, mt_popAt, fun z H M x xs v vs R Q m rx ra h hc => ?_⟩
  unfold popAtD at h
  split at h
  · cases rx
    cases ra with
    | cons r1 r2 =>
      cases r2
      cases r1
      obtain ⟨ds, y, ea, h0, h63, eg, q⟩ := h
      obtain ⟨ws, e1, r⟩ := m.at' _ _ ea
      obtain ⟨u, eu, ru⟩ := r.get eg
      have hlt := (List.getElem?_eq_some_iff.mp eu).1
      exact ⟨_, ws, _, _, u, rfl, rfl, e1, by omega, h63, seqIndex_of h0 (by omega), eu, hc _ _ _ _ q (write_lst m ea (r.eraseIdx _)) ((ext_write m ea) _ _ ru) (ext_write m ea)⟩
  · exact h.elim
section
variable {X : Cx} {W : WX} {o : Expr} {to : DTE} {apos cpos : Pos}
def dMt0 (f : D → List D → PD → MS → Prop) (to : DTE) : DTE := fun ρ R E M => to ρ (fun x M1 => isL M1 x ∧ f x [] R M1) E M
theorem de_mtL0 {name : Str} {id : String} {f : D → List D → PD → MS → Prop} (slot : Slot "list" name id) (hty : typeOf (.builtin id) = pure (.type "method_descriptor")) (hm : MtD X id f) (ho : DE X W o to)
    (hbase : attributeBase o name X.env (eval o X.env) = eval o X.env := by rfl) (hline : (apos.endLine == cpos.line) = true := by rfl) :
    DE X W (.Call (.Attribute o name apos) [] [] cpos) (dMt0 f to) := by
  obtain ⟨r, hr, ad⟩ := hm
  exact imp (pe_bm0 PySem.F.plainAttrs_list slot hty hr ho hbase hline) fun σ H Q ⟨z, ρ, M, R, E, hs, hm, h, hc, hE⟩ =>
    ⟨z, ρ, M, _, E, hs, hm, h, fun x M1 v H1 h1 m1 r1 e1 => ⟨isL_at m1 h1.1 r1, ad _ _ _ _ _ _ _ _ _ m1 r1 .nil h1.2 (hc.ext e1)⟩, hE⟩
end
section
variable {De : DEnds} {ρ : Sl} {R : PD} {E : XP} {M : MS} {te to ti tx : DTE} {f : D → List D → PD → MS → Prop} {a : Addr} {k : Str} {i : Int}
theorem v_getK : dGetK to ti ρ R E M = to ρ (fun o M1 => ti ρ (fun i M2 => getKD o i R M2) E M1) E M := (rfl)
theorem v_putK : dPutK te to ti De ρ M = te ρ (fun d M1 => to ρ (fun o M2 => ti ρ (fun i M3 => putKD o i d (fun M4 => De.nx ρ M4) M3) De.ex M2) De.ex M1) De.ex M := (rfl)
theorem v_get2K : dGet2K to ti tx ρ R E M = to ρ (fun o M1 => isDk M1 o ∧ ti ρ (fun i M2 => tx ρ (fun x M3 => get2KD o i x R M3) E M2) E M1) E M := (rfl)
theorem v_dict0 : dDict0 ρ R E M = ∀ p, M p = none → R (.ref p) (um M p (.dk [])) := (rfl)
theorem v_disp {ts : List (Key × DTE)} : dDisp ts ρ R E M = ∀ p, M p = none → dPairs ts ρ (fun kvs M' => M' p = some (.dk []) ∧ R (.ref p) (um M' p (.dk kvs))) E (um M p (.dk [])) := (rfl)
theorem v_mt0 : dMt0 f to ρ R E M = to ρ (fun x M1 => isL M1 x ∧ f x [] R M1) E M := (rfl)
theorem v_prN {R : List (Key × D) → MS → Prop} : dPairs [] ρ R E M = R [] M := (rfl)
theorem v_prC {R : List (Key × D) → MS → Prop} {k : Key} {ts : List (Key × DTE)} : dPairs ((k, te) :: ts) ρ R E M = te ρ (fun d M1 => dPairs ts ρ (fun ps M2 => R ((k, d) :: ps) M2) E M1) E M := (rfl)
end
/-- reading and writing of a dict by a text that is there -/
theorem q_getS {a : Addr} {k : Str} {kvs : List (Key × D)} {d : D} {R : PD} {M : MS} (e : M a = some (.dk kvs)) (g : getM kvs (.inr k) = some d) (q : R d M) : getKD (.ref a) (.str k) R M := ⟨.inr k, kvs, d, rfl, e, g, q⟩
theorem q_getI {a : Addr} {k : Int} {kvs : List (Key × D)} {d : D} {R : PD} {M : MS} (e : M a = some (.dk kvs)) (g : getM kvs (.inl k) = some d) (q : R d M) : getKD (.ref a) (.int k) R M := ⟨.inl k, kvs, d, rfl, e, g, q⟩
theorem q_putS {a : Addr} {k : Str} {kvs kvs' : List (Key × D)} {d : D} {q : MS → Prop} {M : MS} (e : M a = some (.dk kvs)) (hl : kvs.length < sizeLine) (g : putM kvs (.inr k) d = kvs') (h : q (um M a (.dk kvs'))) : putKD (.ref a) (.str k) d q M := ⟨.inr k, kvs, rfl, e, hl, by rw [g]; exact h⟩
theorem q_putI {a : Addr} {k : Int} {kvs kvs' : List (Key × D)} {d : D} {q : MS → Prop} {M : MS} (e : M a = some (.dk kvs)) (hl : kvs.length < sizeLine) (g : putM kvs (.inl k) d = kvs') (h : q (um M a (.dk kvs'))) : putKD (.ref a) (.int k) d q M := ⟨.inl k, kvs, rfl, e, hl, by rw [g]; exact h⟩
end L2.DL
/-! DLzr: sorted(set(t)), t a tuple or a list of pairs of whole numbers (set over a tuple after HandS.TupSets' set over a list) -/
namespace L2
open PySem PySem.Spec PyProof.Rows
section
variable {P : Program} {w : World} {A : Around} {E : Value → Shared → Prop} {s : Shared}


/-- set(t) of a tuple -/
theorem call_set_tupsT {l : Addr} {items : Array Value} (ks : List (Addr × List Int)) {Q : Value → Shared → Prop} (hh : A.handled = none) (hl : s.heap.IsTuple l items) (hit : items.toList = ks.map fun p => Value.ref p.1)
    (hk : ∀ p ∈ ks, IsT P w s.heap p.2 p.1) (hfew : ks.length < 64) (hu : A.units + 3 < cLine)
    (h : ∀ (h' : Heap) (tk : Nat) L es ep t, SetTR P w h' s.heap.objs.size L es ep t → Got ks ks.length L → (∀ b o, s.heap.get? b = some o → h'.get? b = some o) → Q (.ref s.heap.objs.size) { s with heap := h', toks := tk }) :
    wpAny (model P w) A (call (.type "set") [.ref l]) Q E s := by
  have hisz : items.size = ks.length := by
    have q := congrArg List.length hit
    rw [Array.length_toList, List.length_map] at q
    exact q
  obtain ⟨c, tl, hmro⟩ := F.called_set.mro
  have hmade := F.called_set.made
  have hsub := F.called_set.sub
  refine wpAny_call (codeAny_of_tree ?_)
  show wpAny _ _ (callAny (.type "set") _) _ _ _
  refine wpAny_pure ⟨Code.quiet_builtin _ (by decide +kernel), codeAny_builtin F.entry_type_call ?_⟩
  rw [Around.under_plain (weight_type_call_type "set" [.ref l] []) rfl]
  have h1 := F.called_set.notType
  have h2 := F.called_set.canCreate
  have hct := F.typeCall_set_1 (.ref l)
  repeat (any_goals (first | assumption | wp_step))

  refine codeAny_mono (code_set_led1 (.ref l) (E := E) (Q₁ := fun obj s₁ => obj = .ref s.heap.objs.size ∧ s₁ = { s with heap := s.heap.push { cls := .type "set", dict := none, data := .set #[] 0 (.fresh 0 0 (!w.params.followText "set-order")) } }) ⟨rfl, rfl⟩) fun r s₁ hr => ?_
  cases r with
  | error e => exact hr
  | ok fl =>
    cases fl with
    | ret obj =>
      obtain ⟨rfl, rfl⟩ := hr
      have hS : (s.heap.push { cls := .type "set", dict := none, data := .set #[] 0 (.fresh 0 0 (!w.params.followText "set-order")) }).get? s.heap.objs.size = some { cls := .type "set", dict := none, data := .set #[] 0 (.fresh 0 0 (!w.params.followText "set-order")) } := Heap.get?_push_size _ rfl
      have hT : Shared.TypeIs { s with heap := s.heap.push { cls := .type "set", dict := none, data := .set #[] 0 (.fresh 0 0 (!w.params.followText "set-order")) } } (.ref s.heap.objs.size) "set" := ⟨_, hS, rfl⟩
      have hli := F.called_set.init.lookup
      have hbi := F.called_set.init.bind (.ref s.heap.objs.size)
      repeat (any_goals (first | assumption | wp_step))

      refine codeAny_mono (codeAny_call_builtin (R := wants (fun r s₂ => r = .none ∧ ∃ h' tk L es ep t, s₂ = { s with heap := h', toks := tk } ∧ SetTR P w h' s.heap.objs.size L es ep t ∧ Got ks ks.length L ∧
          (∀ b o, s.heap.get? b = some o → h'.get? b = some o)) E) F.called_set.init.plain F.entry_set_init (check_set_init_1 hT ?_)) fun r₂ s₂ hr₂ => ?_
      · obtain ⟨ol, hol, hcl, nl, hdl⟩ := hl
        obtain ⟨ocls, odict, odata, oslots⟩ := ol
        simp only at hcl hdl
        subst hcl; subst hdl
        have hol' : (s.heap.push { cls := .type "set", dict := none, data := .set #[] 0 (.fresh 0 0 (!w.params.followText "set-order")) }).get? l = some { cls := .type "tuple", dict := odict, data := .seq items nl, slots := oslots } := Heap.get?_push_of_some _ hol
        have hsls := F.sub_tuple_set
        have hslf := F.sub_tuple_frozenset
        have hne : (Value.type "tuple" == Value.type "dict") = false := by decide
        have hl1 : (s.heap.push { cls := .type "set", dict := none, data := .set #[] 0 (.fresh 0 0 (!w.params.followText "set-order")) }).IsTuple l items := ⟨_, hol', rfl, nl, rfl⟩
        unfold Builtin.«set.__init__» noKeywords Builtin.Frozenset.updateFrom
        generalize hPI : pyIter = PI
        wp_walk
        subst hPI

        refine wpAny_pyIter_tuple hl1 ?_
        refine wpAny_bind (wpAny_runValue ?_)
        have hlS : l < s.heap.objs.size := Heap.lt_size hol
        have hh3 : A.in1.in1.in1.handled = none := by simp [hh]
        have hz1 : (s.heap.push { cls := .type "set", dict := none, data := .set #[] 0 (.fresh 0 0 (!w.params.followText "set-order")) }).objs.size = s.heap.objs.size + 1 := Heap.size_push ..
        have hneI : l ≠ (s.heap.push { cls := .type "set", dict := none, data := .set #[] 0 (.fresh 0 0 (!w.params.followText "set-order")) }).objs.size := by
          rw [Heap.size_push]; exact Nat.ne_of_lt (Nat.lt_succ_of_lt hlS)
        have hSf : s.heap.objs.size ∉ [(s.heap.push { cls := .type "set", dict := none, data := .set #[] 0 (.fresh 0 0 (!w.params.followText "set-order")) }).objs.size, l] := by
          rw [Heap.size_push]; simp only [List.mem_cons, List.mem_singleton, List.not_mem_nil, or_false, not_or]
          exact ⟨Nat.ne_of_lt (Nat.lt_succ_self _), Nat.ne_of_gt hlS⟩
        have hval : ∀ (i : Nat) (v : Value), items[i]? = some v → ∃ p, ks[i]? = some p ∧ v = .ref p.1 := fun i v hv => by
          have q : items.toList[i]? = some v := by rw [Array.getElem?_toList]; exact hv
          rw [hit, List.getElem?_map] at q
          cases hq : ks[i]? with
          | none => rw [hq] at q; cases q
          | some p =>
            rw [hq] at q
            exact ⟨p, rfl, (Option.some.inj q).symm⟩
        have none_of : ∀ b, s.heap.objs.size ≤ b → s.heap.get? b = none := fun b hb => by
          cases q : s.heap.get? b with
          | none => rfl
          | some o => exact absurd (Nat.lt_of_lt_of_le (Heap.lt_size q) hb) (Nat.lt_irrefl _)
        refine set_update_tups ((Walks.tuple hh3 _ l hneI items).toS) s.heap.objs.size
          hSf ks hisz hfew hval s.heap hk (none_of _ (Nat.le_refl _)) (fun b hb => none_of b (by
            rw [List.mem_singleton.mp hb, Heap.size_push]
            exact Nat.le_succ _)) hu (items.size - 0) 0 _ (by omega) (Nat.zero_le _)
          ⟨⟨_, Heap.get?_push_size _ rfl, rfl, rfl⟩, (hl1.push _)⟩ (fun b o e => Heap.get?_push_of_some _ (Heap.get?_push_of_some _ e)) ?hS0 ?hR
        case hS0 =>
          have hget : ((s.heap.push { cls := .type "set", dict := none, data := .set #[] 0 (.fresh 0 0 (!w.params.followText "set-order")) }).push { cls := .type "tuple_iterator", data := .fields #[.ref l, .int 0 0] }).get? s.heap.objs.size
              = some { cls := .type "set", dict := none, data := .set #[] 0 (.fresh 0 0 (!w.params.followText "set-order")) } := Heap.get?_push_of_some _ hS
          exact ⟨[], #[], 0, _, setTR_fresh hget, Got.zero ks⟩
        case hR =>
          intro s' L es ep t hm hS' g' hkp
          obtain ⟨h', g2, d', tk', os'⟩ := s'
          have eg : g2 = s.gens := hm.gens
          have ed : d' = s.drawn := hm.drawn
          have eo : os' = s.os := hm.os
          subst eg; subst ed; subst eo
          show wpAny _ _ _ _ _ _
          refine wpAny_pure ?_
          show wpAny _ _ (ret Value.none) _ _ _
          rw [hisz] at g'
          exact wpAny_pure ⟨rfl, h', tk', L, es, ep, t, rfl, hS', g', hkp⟩

      · cases r₂ with
        | error e => exact hr₂
        | ok fl₂ =>
          cases fl₂ with
          | ret r =>
            obtain ⟨rfl, h', tk, L, es, ep, t, rfl, hS', g', hk'⟩ := hr₂
            repeat (any_goals (first | assumption | wp_step))
            exact h _ _ _ _ _ _ hS' g' hk'
          | _ => exact hr₂.elim
    | _ => exact hr.elim

end
section
variable {X : Cx}
def rSetOfTT (K : PySem.W.Frag) (P : Program) (w : World) : List V → Hp → VK → Prop := fun xs H Q => ∃ (l : Addr) (ks : List (Addr × List Int)), xs = [V.ref l] ∧ SqT K H l (ks.map fun p => V.ref p.1) ∧ (∀ p ∈ ks, SqT K H p.1 (p.2.map V.int)) ∧ ks.length < 64 ∧
  ∀ a L, H a = none → (∀ p ∈ L, p ∈ ks) → (∀ p ∈ ks, p.2 ∈ L.map (·.2)) → Q (.ref a) (upd H a (SetTO P w a L))
theorem cr_setOfTT (hc : X.calm = true) (hu : X.A.units + 64 < cLine) : CallR X (.type "set") (rSetOfTT X.K X.prog X.w) := by
  intro pins s σ H xs us Q I r h
  obtain ⟨l, ks, rfl, hl, hk, hf, q⟩ := h
  rw [Vals.ref1 r]
  obtain ⟨its, rv, pl, hz⟩ := I.tuple hl
  have hn : H s.heap.objs.size = none := I.hok.fresh (Nat.le_refl _)
  refine call_set_tupsT (P := X.prog) (w := X.w) ks (I.ok.hd hc) pl (by simpa using refs_of_vals rv) (fun p hp => I.isT (hk p hp)) hf (by omega) fun h' tk L es ep t R g k => ?_
  refine ⟨.ref s.heap.objs.size, upd H s.heap.objs.size (SetTO X.prog X.w s.heap.objs.size L), I.laid (t' := tk) k (Nat.le_refl _) (setTO_new R.t0), rfl, q _ L hn (fun p hp => ?_) fun p hp => ?_⟩
  · exact List.mem_of_mem_take (g.sub p hp)
  · exact g.all p (by rw [List.take_length]; exact hp)
end
end L2
namespace L2.DL
open PySem PySem.Spec PyProof.Rows
variable [Tbs]
def sSetU (d : D) (R : PD) (M : MS) : Prop := ∃ ps : List (Int × Int), (Ls M d (ps.map dPr) ∨ d = .tup (ps.map dPr)) ∧ ps.length < 64 ∧
  ∀ qs : List (Int × Int), qs.Nodup → (∀ x, x ∈ qs ↔ x ∈ ps) → qs.Pairwise (fun a b => a.1 < b.1 ∨ (a.1 = b.1 ∧ a.2 < b.2)) → R (.lst (qs.map dPr)) M
def dSortSetU (te : DTE) : DTE := fun ρ R E M => te ρ (fun d M1 => sSetU d R M1) E M
/-- the sorting of a set, whatever it was made of -/
theorem sort_after {X : Cx} {z : Hd} {H1 : Hp} {M1 : MS} {R : PD} {Q : VK} {ps : List (Int × Int)} {ks : List (Addr × List Int)} (m1 : RelM ⟨X.K, z⟩ H1 M1) (hcn : Cont ⟨X.K, z⟩ H1 M1 R Q)
    (ek : ks.map (·.2) = ps.map (fun p => [p.1, p.2])) (hk : ∀ p ∈ ks, SqT X.K H1 p.1 (p.2.map V.int))
    (q : ∀ qs : List (Int × Int), qs.Nodup → (∀ x, x ∈ qs ↔ x ∈ ps) → qs.Pairwise (fun a b => a.1 < b.1 ∨ (a.1 = b.1 ∧ a.2 < b.2)) → R (.lst (qs.map dPr)) M1) :
    ∀ b L, H1 b = none → (∀ p ∈ L, p ∈ ks) → (∀ p ∈ ks, p.2 ∈ L.map (·.2)) → rSortedPs X.K X.prog X.w [V.ref b] (upd H1 b (SetTO X.prog X.w b L)) Q := by
  intro b L hb hL1 hL2
  have hL3 : ∀ p ∈ L, p.2.length = 2 := fun p hp => by
    have hm := List.mem_map_of_mem (f := (·.2)) (hL1 p hp)
    rw [ek] at hm
    obtain ⟨u, _, eu⟩ := List.mem_map.mp hm
    rw [← eu] <;> rfl
  have x1 := ext_new m1 (o := SetTO X.prog X.w b L) hb
  have m2 := relM_new m1 (o := SetTO X.prog X.w b L) hb
  have rL := x1.all (relA_of_keys L (fun p hp => hk p (hL1 p hp)) hL3)
  have kL : ∀ p ∈ L, SqT X.K (upd H1 b (SetTO X.prog X.w b L)) p.1 (p.2.map V.int) := by
    intro p hp
    have r := x1 _ _ (Rel.tup (M := M1) (ds := p.2.map D.int) (hk p (hL1 p hp)) relA_ints)
    cases r with
    | tup s r2 =>
      rw [r2.ints] at s
      exact s
  refine ⟨b, L, rfl, upd_same, kL, hL3, fun L' c hp hnd hpw hn => ?_⟩
  have x2 := ext_new m2 (o := .lst (L'.map fun q => V.ref q.1)) hn
  have m3 := relM_new m2 (o := .lst (L'.map fun q => V.ref q.1)) hn
  have hL4 : ∀ p ∈ L', p.2.length = 2 := fun p hq => hL3 p (hp.mem_iff.mp hq)
  have rL' := x2.all (relA_of_keys L' (fun p hq => kL p (hp.mem_iff.mp hq)) hL4)
  have rr : Rel ⟨X.K, z⟩ (upd (upd H1 b (SetTO X.prog X.w b L)) c (.lst (L'.map fun q => V.ref q.1))) M1 (.ref c) (.lst ((L'.map fun p => prI p.2).map dPr)) :=
    .lst (fz_new m2 hn) rL'
  refine hcn _ _ _ _ (q (L'.map fun p => prI p.2) ?_ (fun x => ?_) ?_) m3 rr (x1.trans x2)
  · refine List.pairwise_map.mpr (List.Pairwise.imp_of_mem (fun {a b} ha hb hne e => hne ?_) (List.pairwise_map.mp hnd))
    rw [prI_pair (hL4 a ha), prI_pair (hL4 b hb), e]
  · have f : x ∈ (L'.map fun p => prI p.2) ↔ [x.1, x.2] ∈ L'.map (·.2) := by
      constructor
      · intro hx
        obtain ⟨p, hq, rfl⟩ := List.mem_map.mp hx
        exact List.mem_map.mpr ⟨p, hq, prI_pair (hL4 p hq)⟩
      · intro hx
        obtain ⟨p, hq, ee⟩ := List.mem_map.mp hx
        refine List.mem_map.mpr ⟨p, hq, ?_⟩
        show prI p.2 = x
        rw [show p.2 = [x.1, x.2] from ee] <;> rfl
    rw [f]
    have g : x ∈ ps ↔ [x.1, x.2] ∈ ks.map (·.2) := by
      rw [ek]
      constructor
      · intro hx
        exact List.mem_map.mpr ⟨x, hx, rfl⟩
      · intro hx
        obtain ⟨u, hu, ee⟩ := List.mem_map.mp hx
        injection ee with e1 e2
        injection e2 with e2 _
        have : u = x := Prod.ext e1 e2
        exact this ▸ hu
    rw [g]
    constructor
    · intro hx
      obtain ⟨p, hq, ee⟩ := List.mem_map.mp hx
      exact List.mem_map.mpr ⟨p, hL1 p (hp.mem_iff.mp hq), ee⟩
    · intro hx
      obtain ⟨p, hq, ee⟩ := List.mem_map.mp hx
      have h2 := hL2 p hq
      obtain ⟨r, hr, er⟩ := List.mem_map.mp h2
      exact List.mem_map.mpr ⟨r, hp.mem_iff.mpr hr, er.trans ee⟩
  · refine List.pairwise_map.mpr ?_
    have hnd' := List.pairwise_map.mp hnd
    refine List.Pairwise.imp_of_mem (fun {a b} ha hb hh => ?_) (hpw.and hnd')
    have h1 := SrtO.lexB_no.mp hh.1
    have h2 : prI a.2 ≠ prI b.2 := fun e => hh.2 (by rw [prI_pair (hL4 a ha), prI_pair (hL4 b hb), e])
    have h3 : ¬ ((prI a.2).1 = (prI b.2).1 ∧ (prI a.2).2 = (prI b.2).2) := fun e => h2 (Prod.ext e.1 e.2)
    omega
section
variable {X : Cx} {W : WX} {e : Expr} {te : DTE} {p p2 q pos : Pos}
theorem de_sortSetU (hc : X.calm = true) (hu : X.A.units + 64 < cLine) (he : DE X W e te) (hm : X.mg "sorted" = none) (hm2 : X.mg "set" = none) (hg : Gl X "sorted" := by rfl) (hg2 : Gl X "set" := by rfl)
    (hv : bootBuiltins "sorted" = some (.builtin "sorted") := by decide +kernel) (hv2 : bootBuiltins "set" = some (.type "set") := by decide +kernel)
    (hs1 : starEach [e] X.env = (false, eval e X.env) :: starEach [] X.env := by rfl) (hs2 : (backTo q (starEach [] X.env)).any (·.1) = false := by rfl) :
    DE X W (.Call (.Name "sorted" p) [.Call (.Name "set" p2) [e] [] q] [] pos) (dSortSetU te) := by
  refine imp (pe_callB (cr_sortedPs hc) hg hm hv (pa_cons (pe_callTy ((cr_setOfT hc hu).or (cr_setOfTT hc hu)) hg2 hm2 hv2 (pa_cons he pa_nil hs1) (by decide) (by decide) hs1 hs2) pa_nil)) fun σ H Q ⟨z, ρ, M, R, E, hs, hm, h, hcn, hE⟩ => ?_
  refine ⟨z, ρ, M, _, E, hs, hm, h, fun d M1 v H1 h1 m1 r1 e1 => ?_, hE⟩
  obtain ⟨ps, hl, h64, q⟩ := h1
  rcases hl with hl | rfl
  · obtain ⟨a, vs, rfl, ea, ra⟩ := ls_at m1 hl r1
    obtain ⟨ks, rfl, ek, hk⟩ := keys_of ra
    have hlk : ks.length = ps.length := by
      have := congrArg List.length ek
      simpa using this
    exact .inl ⟨a, ks, rfl, SqL.of ea, hk, by omega, sort_after m1 (hcn.ext e1) ek hk q⟩
  · cases r1 with
    | tup sq ra =>
      obtain ⟨ks, rfl, ek, hk⟩ := keys_of ra
      have hlk : ks.length = ps.length := by
        have := congrArg List.length ek
        simpa using this
      exact .inr ⟨_, ks, rfl, sq, hk, by omega, sort_after m1 (hcn.ext e1) ek hk q⟩
end
section
variable {te : DTE} {ρ : Sl} {R : PD} {E : XP} {M : MS}
theorem v_sortSetU : dSortSetU te ρ R E M = te ρ (fun d M1 => sSetU d R M1) E M := (rfl)
end
end L2.DL
/-! DLzu: an except clause that names several classes, with as -/
namespace L2.DL
open PySem PySem.Spec PyProof.Rows
variable [Tbs]
/-- what the clause's expression finds out of an exception of that class, in the suite's context -/
structure Tst (X : Cx) (tx : Expr) (cls : Value) (b : Bool) : Prop where
  run : ∀ {a : Addr} {oe : Obj} {ps : List (Addr × Obj)} {σ : St} {H : Hp} {s : Shared} {Q : Bool → Shared → Prop} {E : Value → Shared → Prop}, Inv (X.suite a ((a, oe) :: ps)) [] σ H s → PySem.W.Looks (model X.prog X.w) s.heap (typeOf (.ref a)) cls →
    (∀ h', (∀ q o, s.heap.get? q = some o → h'.get? q = some o) → Q b { s with heap := h' }) → wpAny (model X.prog X.w) (X.A.mark (some (.ref a))) (eval tx X.env) (fun c s1 => wpAny (model X.prog X.w) (X.A.mark (some (.ref a))) (excMatches (.ref a) c) Q E s1) E s
theorem nm_run {X : Cx} {a : Addr} {oe : Obj} {ps : List (Addr × Obj)} {σ : St} {H : Hp} {s : Shared} {x : Str} {p : Pos} {c : Value} {Q E : Value → Shared → Prop} (n : Names X x c) (S : Inv (X.suite a ((a, oe) :: ps)) [] σ H s) (q : Q c s) : wpAny (model X.prog X.w) (X.A.mark (some (.ref a))) (eval (.Name x p) X.env) Q E s := by
  obtain ⟨g, d, m | ⟨m, v, z⟩⟩ := n
  · exact ld_glob (X := X.suite a ((a, oe) :: ps)) S g m q d
  · exact ld_blt (X := X.suite a ((a, oe) :: ps)) S g m v q z d
theorem tst3 {X : Cx} {x1 x2 x3 : Str} {c1 c2 c3 cls : Value} {p1 p2 p3 tp : Pos} {kk : Nat} {b : Bool} (n1 : Names X x1 c1) (n2 : Names X x2 c2) (n3 : Names X x3 c3) (e : PySem.W.exmAny X.K cls [c1, c2, c3] = some b) : Tst X (.Tuple [.Name x1 p1, .Name x2 p2, .Name x3 p3] kk tp) cls b := by
  refine ⟨fun {a oe ps σ H s Q E} S L k => ?_⟩
  refine wpAny_Tuple (wpAny_items_cons (nm_run n1 S (wpAny_items_cons (nm_run n2 S (wpAny_items_cons (nm_run n3 S (wpAny_items_nil ⟨by size_fits, ?_⟩)))))))
  have up : ∀ q o, s.heap.get? q = some o → (s.heap.push { cls := .type "tuple", data := .seq [c1, c2, c3].toArray }).get? q = some o := fun _ _ z => Heap.get?_push_of_some _ z
  exact (PySem.W.exm_tup3 (S.kIn.keeps up) (L.keeps up) (Heap.get?_push_size s.heap rfl) e).here (k _ up)
theorem tst2 {X : Cx} {x1 x2 : Str} {c1 c2 cls : Value} {p1 p2 tp : Pos} {kk : Nat} {b : Bool} (n1 : Names X x1 c1) (n2 : Names X x2 c2) (e : PySem.W.exmAny X.K cls [c1, c2] = some b) : Tst X (.Tuple [.Name x1 p1, .Name x2 p2] kk tp) cls b := by
  refine ⟨fun {a oe ps σ H s Q E} S L k => ?_⟩
  refine wpAny_Tuple (wpAny_items_cons (nm_run n1 S (wpAny_items_cons (nm_run n2 S (wpAny_items_nil ⟨by size_fits, ?_⟩)))))
  have up : ∀ q o, s.heap.get? q = some o → (s.heap.push { cls := .type "tuple", data := .seq [c1, c2].toArray }).get? q = some o := fun _ _ z => Heap.get?_push_of_some _ z
  exact (PySem.W.exm_tup2 (S.kIn.keeps up) (L.keeps up) (Heap.get?_push_size s.heap rfl) e).here (k _ up)
theorem fly_more {B h h' : Heap} {l : List Env} {a : Addr} {Z : Obj → Prop} (f : HandSPX.FlyingZ B l a Z h) (k : ∀ q o, h.get? q = some o → h'.get? q = some o) : HandSPX.FlyingZ B l a Z h' := by
  obtain ⟨k1, k2, k3, o1, vs, T, oT, us, g1, z, d1, v1, nT, ne, g2, d2, w⟩ := f
  exact ⟨fun b o e => k b o (k1 b o e), k2, Heap.FunFrames.of_keeps (fun b o e _ => ⟨o, k b o e, rfl⟩) k3, o1, vs, T, oT, us, k _ _ g1, z, d1, v1, nT, ne, k _ _ g2, d2, w⟩
/-- the ends of the suite's flow, n cleared -/
abbrev clr (D : Ends) (i : Nat) : Ends := { nx := fun σ' H' => D.nx (σ'.set i none) H', rt := D.rt, bk := fun σ' H' => D.bk (σ'.set i none) H', ct := fun σ' H' => D.ct (σ'.set i none) H' }
/-- what is wished of an exception of the body -/
def wishT (X : Cx) (tx : Expr) (i : Nat) (ts : Addr → Value → Option Addr → TS) (Wout : WX) (D : Ends) : WX := fun cls d σ H => ∃ b, Tst X tx cls b ∧ (b = true → ∀ a, H a = none → ts a cls d (clr D i) (σ.set i (some (.ref a))) H) ∧ (b = false → Wout cls d σ H)
section
variable {X : Cx} {n : Str} {tx : Expr} {i : Nat} {body suite : List Stmt} {b₀ : Stmt} {pos pos' : Pos} {tb : WX → TS} {ts : Addr → Value → Option Addr → TS} {Wout : WX}
theorem ps_tryT (hs : X.stack = X.env :: X.outer) (hf : X.env.frame = some X.env.locals) (hN : X.N.Nodup) (hi : X.N[i]? = some n) (hln : X.env.kindOf n = some .local) (tk : Takes X Wout)
    (hb : ∀ (W : WX) (pn : List (Addr × Obj)) (xe : Value → Shared → Prop), Takes (X.tr pn xe) W → PassesOwn (model X.prog X.w) X.A X.env xe → PSs (X.tr pn xe) body (tb W))
    (hsu : ∀ (a : Addr) (oe : Obj) (cls : Value) (d : Option Addr) (pn : List (Addr × Obj)), Zc cls d oe → (∃ vs, oe.data = .fields vs) → PSs (X.suite a ((a, oe) :: pn)) (b₀ :: suite) (ts a cls d)) :
    PS X (.Try body [.ExceptHandler (some tx) (some n) (b₀ :: suite) pos'] [] [] pos) (fun D σ H => tb (wishT X tx i ts Wout D) D σ H) := by
  refine ⟨fun pins s σ H D I h => wpAny_Try_except ?_⟩
  have o := I.ok
  have fr : X.A.frames = some (X.env :: X.outer) := o.frames.trans (congrArg some hs)
  have T0 := (hb (wishT X tx i ts Wout D) (X.pn ++ pins) (fun e s₁ => wpAny (model X.prog X.w) X.A (noteFrame e X.env) (fun _ s₂ => wpAny (model X.prog X.w) X.A (setFlight e none) (fun _ s₃ => wpAny (model X.prog X.w) X.A (handleBy e X.env [.ExceptHandler (some tx) (some n) (b₀ :: suite) pos']) (SP X pins D) X.xe s₃) X.xe s₂) X.xe s₁)
    (fun u s' xx => ?_) PassesOwn.looking).run [] s σ H D (I.toTry _) h
  · refine wpAny_mono T0 (fun f s1 hsp => ?_) fun e s1 he => he
    cases f with
    | ret u => exact (let ⟨v, σ', H', J, r, q⟩ := hsp; ⟨v, σ', H', J.ofTry o, r, q⟩)
    | next => exact (let ⟨σ', H', J, q⟩ := hsp; wpAny_execs_nil ⟨σ', H', J.ofTry o, q⟩)
    | brk => exact (let ⟨σ', H', J, q⟩ := hsp; ⟨σ', H', J.ofTry o, q⟩)
    | cont => exact (let ⟨σ', H', J, q⟩ := hsp; ⟨σ', H', J.ofTry o, q⟩)
  · obtain ⟨a, B, sI, pins', σ', H', cls, d, rfl, J', nb, up, sk, na, os, ag, b, tst, yes, no⟩ := xx
    have J : Inv X pins σ' H' sI := J'.ofTry o
    have sk' : Sky B (X.env :: X.outer) a (Zc cls d) X.env.locals s'.heap := hs ▸ sk
    refine Sky.land Zc.steady fr hf sk' fun h3 f3 u3 => ?_
    -- at any heap further on at which it flies
    have at_ : ∀ {h : Heap}, HandSPX.FlyingZ B (X.env :: X.outer) a (Zc cls d) h → s'.heap.UpToSlots h → ∃ oe, (h.get? a = some oe ∧ Zc cls d oe ∧ (∃ vs, oe.data = .fields vs)) ∧ Inv X pins σ' H' { s' with heap := h } ∧ Inv (X.suite a ((a, oe) :: (X.pn ++ pins))) [] σ' H' { s' with heap := h } := by
      intro h fl u
      obtain ⟨oe, vs, g, z, dd⟩ := fl.there
      have out : a ∉ frs (X.env :: X.outer) := fun m => by
        obtain ⟨_, o2, g2, nf⟩ := fl.2.2.1.mem m
        cases g.symm.trans g2
        exact nf _ dd
      have K := J.landed nb fl.1 (s' := { s' with heap := h }) (up.trans u) os ag
      refine ⟨oe, ⟨g, z, vs, dd⟩, K, K.suite g dd na (fun e => out ?_) fun m => out ?_⟩
      · exact List.mem_filterMap.mpr ⟨X.env, .head _, by rw [hf, e]⟩
      · exact (let ⟨e, m1, m2⟩ := List.mem_filterMap.mp m; List.mem_filterMap.mpr ⟨e, .tail _ m1, m2⟩)
    obtain ⟨oe3, ⟨g3, z3, _⟩, K3, S3⟩ := at_ f3 u3
    refine wpAny_handleBy_cons (codeAny_handlers_test (tst.run S3 (fun A Q E s k q => wpAny_typeOf_ref (k _ _ g3) (by rw [z3.1]; exact q)) fun h4 k4 => ?_)) (by intro q; cases q)
    have f4 := fly_more f3 k4
    have u4 := u3.trans (Heap.UpToSlots.of_keeps k4)
    cases b with
    | false =>
      obtain ⟨oe4, ⟨g4, _, _⟩, K4, _⟩ := at_ f4 u4
      refine wpAny_handleBy_nil ?_
      have thr : wpAny (model X.prog X.w) X.A (setFlight (.ref a) X.env.frame) (fun _ s4 => wpAny (model X.prog X.w) X.A (throw (.ref a) : Sem Flow) (SP X pins D) X.xe s4) X.xe { s' with heap := h4 } := by
        rw [hf]
        exact HandSPX.setFlight_upZ f4 fun h5 y5 u5 => wpAny_throw (tk _ _ ⟨a, B, sI, pins, σ', H', cls, d, rfl, J, nb, (up.trans u4).trans u5, .inr (.inr (hs ▸ y5)), na, os, ag, no rfl⟩)
      obtain ⟨_, _, _, oe5, vs5, T5, oT, us, g5, _, d5, v5, _⟩ := f4
      unfold PySem.passOn
      refine wpAny_bind (wpAny_field g5 d5 v5 ?_)
      rw [if_neg (show ¬ ((Value.ref T5 == Value.none) = true) by simp)]
      first | exact wpAny_bind thr | exact wpAny_bind (wpAny_pure (wpAny_bind thr))
    | true =>
      refine codeAny_handlers_suite_as (HandSPX.lands_againZ f4 fun h5 f5 u5 => ?_)
      obtain ⟨oe5, ⟨_, z5, d5⟩, K5, S5⟩ := at_ f5 (u4.trans u5)
      refine store_ok (X := X.suite a ((a, oe5) :: (X.pn ++ pins))) (v := .ref a) S5 hN hi (.inl hln) rfl (fun s6 S6 => ?_) (.inr hln)
      refine wpAny_mono ((hsu a oe5 cls d (X.pn ++ pins) z5 d5).run [] s6 _ H' _ S6 (yes rfl a na)) (fun f s7 r => ?_) fun _ _ z => False.elim z
      have fin : ∀ {σ7 : St} {H7 : Hp} {Q : Shared → Prop}, Inv (X.suite a ((a, oe5) :: (X.pn ++ pins))) [] σ7 H7 s7 → (∀ s8, Inv X pins (σ7.set i none) H7 s8 → Q s8) → wpAny (model X.prog X.w) X.A (do bindName X.env n .none; unbindBehindTheSuite X.env n pos') (fun _ s8 => Q s8) X.xe s7 :=
        fun {σ7 H7 Q} S7 q => gone_ok (S7.unsuite o) hN hi hln q
      cases f with
      | ret u => exact (let ⟨v, σ7, H7, S7, r7, q⟩ := r; fin S7 fun s8 J8 => ⟨_, _, _, J8, r7, q⟩)
      | next => exact (let ⟨σ7, H7, S7, q⟩ := r; fin S7 fun s8 J8 => ⟨_, _, J8, q⟩)
      | brk => exact (let ⟨σ7, H7, S7, q⟩ := r; fin S7 fun s8 J8 => ⟨_, _, J8, q⟩)
      | cont => exact (let ⟨σ7, H7, S7, q⟩ := r; fin S7 fun s8 J8 => ⟨_, _, J8, q⟩)
end
theorem exm_any2 {K : PySem.W.Frag} {cls c1 c2 : Value} {b1 b2 : Bool} (h1 : PySem.W.exmOne K cls c1 = some b1) (h2 : PySem.W.exmOne K cls c2 = some b2) : PySem.W.exmAny K cls [c1, c2] = some (b1 || (b2 || false)) := by
  simp only [PySem.W.exmAny, h1, h2]
theorem exm_any3 {K : PySem.W.Frag} {cls c1 c2 c3 : Value} {b1 b2 b3 : Bool} (h1 : PySem.W.exmOne K cls c1 = some b1) (h2 : PySem.W.exmOne K cls c2 = some b2) (h3 : PySem.W.exmOne K cls c3 = some b3) : PySem.W.exmAny K cls [c1, c2, c3] = some (b1 || (b2 || (b3 || false))) := by
  simp only [PySem.W.exmAny, h1, h2, h3]
section
variable {X : Cx} {n : Str} {tx : Expr} {i : Nat} {body suite : List Stmt} {b₀ : Stmt} {pos pos' : Pos} {t : DTS} {ts : DTX} {Wout : WX} {Ds : List Str} {catches : Str → Bool}
theorem ds_tryT (i : Nat) (hN : X.N.Nodup) (hs : X.stack = X.env :: X.outer) (hf : X.env.frame = some X.env.locals) (tk : Takes X Wout)
    (hex : ∀ C ∈ Ds, ∀ aC, PySem.W.nsIn X.K mainGlobals C = some (some (.ref aC)) → Tst X tx (.ref aC) (catches C))
    (hb : ∀ (W : WX) (pn : List (Addr × Obj)) (xe : Value → Shared → Prop), Takes (X.tr pn xe) W → PassesOwn (model X.prog X.w) X.A X.env xe → DSs (X.tr pn xe) W body t)
    (hsu : ∀ (C : Str), C ∈ Ds → ∀ (aC a dx : Addr) (oe : Obj) (pn : List (Addr × Obj)), PySem.W.nsIn X.K mainGlobals C = some (some (.ref aC)) → Zc (.ref aC) (some dx) oe → (∃ vs, oe.data = .fields vs) → DSs (X.suite a ((a, oe) :: pn)) W0 (b₀ :: suite) (ts C a dx))
    (hi : X.N[i]? = some n := by rfl) (hln : X.env.kindOf n = some .local := by rfl) :
    DS X Wout (.Try body [.ExceptHandler (some tx) (some n) (b₀ :: suite) pos'] [] [] pos) (dTry i Ds catches t ts) := by
  refine impS (ps_tryT (tb := fun W => liftS X.K W t) (ts := fun a cls d De σ H => ∃ C aC dx, C ∈ Ds ∧ cls = .ref aC ∧ PySem.W.nsIn X.K mainGlobals C = some (some (.ref aC)) ∧ d = some dx ∧ liftS X.K W0 (ts C a dx) De σ H) (Wout := Wout) hs hf hN hi hln tk hb
    fun a oe cls d pn hz hd => ⟨fun pins s σ H De I h => ?_⟩) fun De σ H h => ?_
  · obtain ⟨C, aC, dx, hC, rfl, hns, rfl, h⟩ := h
    exact (hsu C hC aC a dx oe pn hns hz hd).run pins s σ H De I h
  · obtain ⟨z, ρ, M, Dd, hs2, hm, h, L⟩ := h
    refine ⟨z, ρ, M, _, hs2, hm, h, L.nx, L.rt, L.bk, L.ct, ?_⟩
    rintro y ρ' M' cls d σ' H' ⟨hC, q⟩ m' s' rx e'
    obtain ⟨⟨aC, rfl, hns⟩, dx, gs, rfl, hdx, hMdx, rk⟩ := rx
    refine ⟨catches y.C, hex _ hC aC hns, fun hb1 a ha => ?_, fun hb1 => ?_⟩
    · rw [if_pos hb1] at q
      obtain ⟨e2, m2⟩ := ext_xd m' hdx hMdx rk
      have ne : a ≠ dx := fun w => by rw [w, hdx] at ha; cases ha
      have L2 := L.ext (e'.trans e2)
      refine ⟨y.C, aC, dx, hC, rfl, hns, rfl, z, _, _, _, (s'.ext e2).set i (.ref a), m2, q a dx (m'.free ha) hMdx ne, ?_, L2.rt, ?_, ?_, fun _ _ _ _ _ _ _ w => w.elim⟩
      · exact fun ρ2 M2 σ2 H2 w m s ee => L2.nx _ _ _ _ w m (s.clear i) ee
      · exact fun ρ2 M2 σ2 H2 w m s ee => L2.bk _ _ _ _ w m (s.clear i) ee
      · exact fun ρ2 M2 σ2 H2 w m s ee => L2.ct _ _ _ _ w m (s.clear i) ee
    · rw [if_neg (by rw [hb1]; exact Bool.false_ne_true)] at q
      exact L.ex _ _ _ _ _ _ _ q m' s' ⟨⟨aC, rfl, hns⟩, dx, gs, rfl, hdx, hMdx, rk⟩ e'
end
end L2.DL
/-! DLzw: a def that an except suite calls with the exception that is handled -/
namespace L2.DL
open PySem PySem.Spec PyProof.Rows
variable [Tbs]
def cool (A : Around) : Around := { A with handled := none }
theorem cool_mark {A : Around} {a : Addr} {env : Env} (h : A.handled = some (.ref a)) : ((cool A).deeper env).mark (some (.ref a)) = A.deeper env := by
  cases A
  cases h
  rfl
/-- as FnD, where the exception (a, oe) is handled and nothing is raised -/
structure FnDH (P : Program) (w : World) (F : PySem.W.Frag) (mg : Str → Option Value) (base : Heap) (k : Nat) (f : Addr) (fd : FuncData) (ps : List Str) (g : G) (a : Addr) (oe : Obj) : Prop where
  len : ∀ ds R E M, g ds R E M → ds.length = ps.length
  run : ∀ (A : Around) (outer : List Env) (s : Shared) (H : Hp) (args : Args) (us : List Value) (vs : List V) (Q : VK), L2H.RoomH k A → A.guards = some [] → A.handled = some (.ref a) → L2H.PinOk outer H s (a, oe) → Env0 P w F mg base A outer s H →
    BindsTo s fd args (ps.zip us) → Vals vs us → spD F g vs H Q (fun _ _ _ => False) → codeAny (model P w) A (.call (.ref f) args) (CR (fun _ _ _ _ _ _ => False) outer P w H s Q (fun _ _ _ => False)) s
section
variable {P : Program} {w : World} {K : PySem.W.Frag} {mg : Str → Option Value} {base : Heap} {a : Addr} {oe : Obj}
abbrev cxC (P : Program) (w : World) (K : PySem.W.Frag) (mg : Str → Option Value) (base : Heap) (N : List Str) (qual : Str) (scope : Scope) (f : Addr) (cd : Value) (A : Around) (outer : List Env) (s : Shared) (H : Hp) : Cx :=
  cxOf (fun _ _ _ _ _ _ => False) P w K mg base N qual scope f cd (cool A) outer s H (fun _ _ _ => False)
theorem FnDH.of {x qual : Str} {st : Stmt} {f : Addr} {fd : FuncData} {N ps : List Str} {k : Nat} {g : G} {tb : DTS} (F : L2.Fun K x qual st f fd) (S : FnScope N ps (defScope st)) (len : ∀ ds R E M, g ds R E M → ds.length = ps.length)
    (hb : ∀ (cdv : Value) (A : Around) (outer : List Env) (s : Shared) (H : Hp), Room k ((cool A).deeper (envOfC qual (defScope st) s.heap.objs.size f cdv)) → ((cool A).deeper (envOfC qual (defScope st) s.heap.objs.size f cdv)).guards = some [] →
      DSs ((cxC P w K mg base N qual (defScope st) f cdv A outer s H).suite a [(a, oe)]) W0 (defBody st) tb)
    (hg : ∀ ds R RE M, g ds R RE M → tb (ends R fun _ _ => False) (startD N ds) M) : FnDH P w K mg base (k + 1) f fd ps g a oe := by
  obtain ⟨oc, od, kV, doc, pm, an, cdv, ct, osl, rfl, lk, hcd⟩ := F.ex
  refine ⟨len, fun A outer s H args us vs Q hr hG hh hpin e0 hbd r hsp => ?_⟩
  obtain ⟨z, ds, M, R, RE, ra, rm, hgg, hcont, hex⟩ := hsp
  have hl : vs.length = ps.length := ra.length.trans (len _ _ _ _ hgg)
  have nl : ds.length ≤ N.length := by
    have z := congrArg List.length S.pre
    rw [List.length_take] at z
    have z2 := len _ _ _ _ hgg
    omega
  have kx : K.In s.heap := e0.mod.kin.keeps fun b o e => (e0.bs b o e).1
  have nolim : s.heap.NoLimit := e0.mod.nolimit.keeps fun b o e => (e0.bs b o e).1
  have kinds : ∀ y ∈ ps.zip us, (defScope st).names.lookup y.1 = some .local ∨ ((defScope st).names.lookup y.1 = some .cell ∧ ((cellsFrom (s.heap.objs.size + 1) (defScope st).names []).lookup y.1).isSome = true) := by
    rintro ⟨n, v⟩ hy
    rcases S.par n (List.of_mem_zip hy).1 with q | q
    · exact .inl q
    · exact .inr ⟨q, PySem.W.cellsFrom_some _ _ _ (.inl q)⟩
  refine codeAny_call_function hr.depth (kx _ _ lk) rfl S.co S.gen rfl (PySem.W.codeRec_of kx hcd) (hbd _ _ _ _ ?_)
  refine wpAny_newFunctionEnv_cells S.kind kinds fun env he s1 xc => ?_
  subst he
  refine ⟨nolim.keeps xc.toInCall.keep, codeAny_func ?_⟩
  have hr2 := hr.deeper (envOfC qual (defScope st) s.heap.objs.size f cdv)
  have T := hb cdv A outer s H ⟨rfl, hr2.dp, hr2.un⟩ hG
  have I0 := L2H.inv_startH (CX := fun _ _ _ _ _ _ => False) (qual := qual) (f := f) (cd := cdv) (E := fun _ _ _ => False) S hpin e0 hl r xc
  have eA : ((cxC P w K mg base N qual (defScope st) f cdv A outer s H).suite a [(a, oe)]).A = A.deeper (envOfC qual (defScope st) s.heap.objs.size f cdv) := cool_mark hh
  have I : Inv ((cxC P w K mg base N qual (defScope st) f cdv A outer s H).suite a [(a, oe)]) [] (L2.start N vs) H s1 := by
    have ok := I0.ok
    exact ⟨⟨ok.mod, ok.kind, ok.glob, ok.blt, ok.above, ok.inj, ok.has, ok.cab, (fun z => absurd (show false = true from z) Bool.false_ne_true), (by rw [eA]; exact ok.frames), ok.stk, ok.exf, ok.bs, ok.bsz, ok.noex, ok.exfs, ok.funs, ok.frf⟩,
      I0.os, I0.bare, I0.base, I0.loc, I0.cell, I0.free, I0.freeC, I0.pin, I0.hok, I0.len⟩
  have reading : liftS K W0 tb { nx := fun _ H' => Q .non H', rt := Q } (L2.start N vs) H := by
    refine ⟨z, startD N ds, M, ends R fun _ _ => False, relS_start ra nl, rm, hg ds R RE M hgg, ?_, ?_, ?_, ?_, ?_⟩
    · rintro ρ' M' σ' H' ⟨d', M2, wk, q⟩ m s e
      exact hcont d' M2 .non H' q (m.le wk.1) (wk.2 _ H' _ m .non) (e.trans (Ext.le wk.1))
    · rintro d M' v H' ⟨d', M2, wk, q⟩ m r e
      exact hcont d' M2 v H' q (m.le wk.1) (wk.2 _ H' _ m r) (e.trans (Ext.le wk.1))
    · intro _ _ _ _ q
      exact q.elim
    · intro _ _ _ _ q
      exact q.elim
    · rintro x ρ' M' cls d σ' H' ⟨M2, l, q⟩ m s rx e
      exact q.elim
  have W := T.run [] s1 (L2.start N vs) H _ I reading
  rw [eA] at W
  refine wpAny_mono W (fun fl s' hs => ?_) fun e s' hs => (show False from hs).elim
  have fin : ∀ {σ' : St} {H' : Hp} {v : V} {u : Value}, Inv ((cxC P w K mg base N qual (defScope st) f cdv A outer s H).suite a [(a, oe)]) [] σ' H' s' → RelV v u → Q v H' → CE outer P w H s Q u s' :=
    fun {σ' H' v u} J rv q => ⟨v, H', J.os, J.bare, J.base, J.hok, rv, q⟩
  cases fl with
  | ret u =>
    obtain ⟨v, σ', H', J, rv, q⟩ := hs
    exact fin J rv q
  | next =>
    obtain ⟨σ', H', J, q⟩ := hs
    exact fin (v := .non) (u := .none) J rfl q
  | brk => exact (let ⟨_, _, _, q⟩ := hs; q.elim)
  | cont => exact (let ⟨_, _, _, q⟩ := hs; q.elim)
/-- a def of the text called so -/
structure DfX (P : Program) (w : World) (K : PySem.W.Frag) (mg : Str → Option Value) (base : Heap) (x : Str) (ps : List Str) (k : Nat) (g : G) (a : Addr) (oe : Obj) : Prop where
  ex : ∃ f fd, mg x = some (.ref f) ∧ PySem.W.keepIn K (.ref f) = true ∧ Binds K fd ps [] ∧ FnDH P w K mg base k f fd ps g a oe
/-- what such a def promises: its own reading -/
def gX (tb : DTS) (n : List Str) (a : Addr) : G := fun ds R _ M => ds = [.ref a] ∧ tb (ends R fun _ _ => False) (startD n ds) M
theorem DfX.of {x p : Str} {st : Stmt} {N : List Str} {k : Nat} {tb : DTS} (T : Tx K mg x st) (S : FnScope N [p] (defScope st))
    (bd : ∀ (kV doc pm : Value) (an : Option Addr) (cdv ct : Value) (us : List Value), us.length = [p].length → bindArgs (PySem.W.fnOf x x (defArgs st) (defBody st) (defScope st) .none kV doc pm an cdv ct) ⟨us, []⟩ = pure ([p].zip us))
    (hb : ∀ (f : Addr) (cdv : Value) (A : Around) (outer : List Env) (s : Shared) (H : Hp), Room k ((cool A).deeper (envOfC x (defScope st) s.heap.objs.size f cdv)) → ((cool A).deeper (envOfC x (defScope st) s.heap.objs.size f cdv)).guards = some [] →
      DSs ((cxC P w K mg base N x (defScope st) f cdv A outer s H).suite a [(a, oe)]) W0 (defBody st) tb) : DfX P w K mg base x [p] (k + 1) (gX tb N a) a oe := by
  obtain ⟨f, fd, h1, F⟩ := T.ex
  exact ⟨f, fd, h1, F.kp, F.binds bd, FnDH.of F S (fun ds R E M h => by rw [h.1]; rfl) (hb f) fun ds R RE M h => h.2⟩
end
section
variable {X : Cx} {W : WX} {e : Expr} {es : List Expr} {t : DTA} {g : G} {x : Str} {ps : List Str} {k : Nat} {p pos : Pos} {a : Addr} {oe : Obj} {pn : List (Addr × Obj)}
def dCallX (g : G) (t : DTA) : DTE := fun ρ R E M => t ρ (fun ds M1 => g ds R (fun _ _ => False) M1) E M
theorem v_callX {g : G} {t : DTA} {ρ : Sl} {R : PD} {E : XP} {M : MS} : dCallX g t ρ R E M = t ρ (fun ds M1 => g ds R (fun _ _ => False) M1) E M := (rfl)
theorem v_gX {tb : DTS} {n : List Str} {a : Addr} {R : PD} {E : Ex → MS → Prop} {M : MS} : gX tb n a [.ref a] R E M = tb (ends R fun _ _ => False) (startD n [.ref a]) M := by
  unfold gX
  simp
theorem de_callX (dd : DfX X.prog X.w X.K X.mg X.base x ps k g a oe) (hr : Room k X.A) (hG : X.A.guards = some []) (ha : DA (X.suite a ((a, oe) :: pn)) W (e :: es) t) (hg : Gl X x := by rfl)
    (hdb : (x == ("__debug__" : Str)) = false := by decide) (he : starEach (e :: es) X.env = (false, eval e X.env) :: starEach es X.env := by rfl) (hpl : (backTo pos (starEach es X.env)).any (·.1) = false := by rfl) :
    DE (X.suite a ((a, oe) :: pn)) W (.Call (.Name x p) (e :: es) [] pos) (dCallX g t) := by
  obtain ⟨f, fd, hm, hk, hb, F⟩ := dd.ex
  refine ⟨fun pins s σ H Q I ⟨z, ρ, M, R, E, hs, hm2, h, hc, hE⟩ => ?_⟩
  refine wpAny_Call_Name_kw (ld_glob I hg hm ?_ hdb)
  refine PySem.W.callWith_K (h₀ := X.base) I.ok.mod.kin hk (thn (ha.run pos pins s σ H (fun vs H1 => spD X.K g vs H1 Q fun _ _ _ => False) I
    ⟨z, ρ, M, _, E, hs, hm2, h, fun ds M1 vs H1 h1 m1 r1 e1 => ⟨z, ds, M1, R, _, r1, m1, h1, hc.ext e1, fun x M' cls d H' a b c f => a.elim⟩, hE⟩) fun us s1 ⟨vs, H1, I1, r, q⟩ => ⟨I1.kIn, ?_⟩) he hpl
  have hl : us.length = ps.length := by
    obtain ⟨z, ds, M1, R1, RE, ra, _, gg, _⟩ := q
    rw [← r.length, ra.length]
    exact F.len _ _ _ _ gg
  have bb := hb s1 us I1.kIn (by rw [List.append_nil]; exact hl)
  rw [List.append_nil] at bb
  have P1 := I1.pin (a, oe) (List.mem_append_left _ (.head _))
  have hpin : L2H.PinOk X.stack H1 s1 (a, oe) := ⟨P1.1, P1.2.1, fun hm => (List.mem_cons.mp (I1.stkSub a hm)).elim P1.2.2.1 P1.2.2.2.1, P1.2.2.2.2⟩
  refine wpAny_call (codeAny_mono (F.run (X.suite a ((a, oe) :: pn)).A X.stack s1 H1 ⟨us, []⟩ us vs Q ⟨hr.dp, hr.un⟩ hG rfl hpin I1.env0 bb r q) fun res s' hq => ?_)
  cases res with
  | error e' => exact (show False from hq).elim
  | ok fl =>
    cases fl with
    | ret u => exact I1.after hq
    | next => exact False.elim hq
    | brk => exact False.elim hq
    | cont => exact False.elim hq
end
end L2.DL
/-! DLzx: x in range(n), x not in range(n) -/
namespace L2
open PySem PySem.Spec PyProof.Rows
section
variable {X : Cx}
theorem cr_range1 : CallR X (.type "range") (fun vs H Q => ∃ i, vs = [V.int i] ∧ ∀ p, H p = none → Q (.ref p) (upd H p (.rng 0 i))) := by
  intro pins s σ H vs us Q I r h
  obtain ⟨i, rfl, q⟩ := h
  cases r with
  | cons r rr =>
    cases rr
    obtain ⟨t, rfl⟩ := r
    refine call_range_1 ⟨.ref s.heap.objs.size, upd H s.heap.objs.size (.rng 0 i), I.laid (t' := s.toks + 1 + 1) (fun b o e => Heap.get?_push_of_some _ e) (Nat.le_refl _) ?_, rfl, q _ (I.hok.fresh (Nat.le_refl _))⟩
    exact ⟨s.toks, t, s.toks + 1, Heap.get?_push_size _ rfl⟩
def rInRng (f : Bool → Bool) : R2 := fun x y H Q => ∃ i a lo hi, x = V.int i ∧ y = V.ref a ∧ H a = some (.rng lo hi) ∧ Q (.bl (f (decide (lo ≤ i ∧ i < hi)))) H
theorem op_notin_rng : OpR X (compareOp .NotIn) (rInRng fun k => !k) := by
  intro pins s σ H x y v u Q I rx ry h
  obtain ⟨i, a, lo, hi, rfl, rfl, ha, q⟩ := h
  obtain ⟨k, rfl⟩ := rx
  obtain rfl : u = Value.ref a := ry
  obtain ⟨t1, t2, t3, ho⟩ := I.hok a _ ha
  show wpAny _ _ (do return Value.bool (!(← contains (Value.ref a) (Value.int i k)))) _ _ s
  refine wpAny_bind (wpAny_contains_slot (T := "range") ⟨_, ho, rfl⟩ F.slot_range_contains (call_meets F.slot_range_contains ⟨_, ho, rfl⟩ F.entry_range_contains (F.args_range_contains_2 _ _) (q_contains a lo hi i t1 t2 t3 k)
    ⟨ho, wpAny_truthy_bool (wpAny_pure ⟨.bl _, H, I, rfl, ?_⟩)⟩))
  rw [place1]
  exact q
end
end L2
namespace L2.DL
open PySem PySem.Spec PyProof.Rows
variable [Tbs]
section
variable {X : Cx} {W : WX} {a b : Expr} {ta tb : DTE} {p pos pos2 : Pos}
/-- a in range(b), a not in range(b) -/
def dInRng (f : Bool → Bool) (ta tb : DTE) : DTT := fun ρ R E M => ta ρ (fun x M1 => tb ρ (fun y M2 => ∃ i n, x = .int i ∧ y = .int n ∧ R (f (decide (0 ≤ i ∧ i < n))) M2) E M1) E M
theorem v_inRng {f : Bool → Bool} {ta tb : DTE} {ρ : Sl} {R : Bool → MS → Prop} {E : XP} {M : MS} : dInRng f ta tb ρ R E M = ta ρ (fun x M1 => tb ρ (fun y M2 => ∃ i n, x = .int i ∧ y = .int n ∧ R (f (decide (0 ≤ i ∧ i < n))) M2) E M1) E M := (rfl)
theorem dt_inRng {op : CmpOp} {f : Bool → Bool} (o : OpR X (compareOp op) (rInRng f)) (hm : X.mg "range" = none) (ha : DE X W a ta) (hb : DE X W b tb) (hg : Gl X "range" := by rfl)
    (hs : starEach [b] X.env = (false, eval b X.env) :: starEach [] X.env := by rfl) (hpl : (backTo pos2 (starEach [] X.env)).any (·.1) = false := by rfl)
    (hk : behindInMarks op (.Call (.Name "range" p) [b] [] pos2) = false := by first | exact nomark _ | rfl) :
    DT X W (.Compare a [op] [.Call (.Name "range" p) [b] [] pos2] pos) (dInRng f ta tb) := by
  refine impT (pt_cmpR o ha (pe_callTy (X := X) cr_range1 hg hm boot_range (pa_cons hb pa_nil hs) (he := hs) (hpl := hpl)) hk) fun σ H Q ⟨z, ρ, M, R, E, hs, hm, h, hc, hE⟩ => ?_
  refine ⟨z, ρ, M, _, E, hs, hm, h, fun x M1 vx H1 h1 m1 r1 e1 => ?_, hE⟩
  refine ⟨z, ρ, M1, _, E, hs.ext e1, m1, h1, fun y M2 vy H2 h2 m2 r2 e2 => ?_, hE.ext e1⟩
  obtain ⟨i, n, rfl, rfl, q⟩ := h2
  cases e2 _ _ r1
  cases r2
  cases r1
  refine ⟨n, rfl, fun p hp => ?_⟩
  refine ⟨i, p, 0, n, rfl, rfl, upd_same, ?_⟩
  exact ⟨_, rfl, hc _ _ _ q (relM_new m2 hp) (e1.trans (e2.trans (ext_new m2 hp)))⟩
end
end L2.DL
/-! DLzy: t[::k], t[c::k] of a tuple (c, k written, k at least 2) -/
namespace L2.DL
open PySem PySem.Spec PyProof.Rows
variable [Tbs]
def pkA (lo : Option Int) (k : Int) (n : Nat) : Int := (Builtin.Slice.sliceAdjust lo none k (n : Int)).1
def pkN (lo : Option Int) (k : Int) (n : Nat) : Nat := Builtin.Slice.slicePlaces (Builtin.Slice.sliceAdjust lo none k (n : Int)).1 (Builtin.Slice.sliceAdjust lo none k (n : Int)).2 k
/-- what t[lo::k] takes -/
def pick {α : Type} (lo : Option Int) (k : Int) (xs : List α) : List α := (List.range (pkN lo k xs.length)).filterMap fun (m : Nat) => xs[(pkA lo k xs.length + (m : Int) * k).toNat]?
theorem pkN_le {lo : Option Int} {k : Int} (hk : 2 ≤ k) (hl : ∀ c, lo = some c → 0 ≤ c) (n : Nat) : pkN lo k n ≤ n := by
  unfold pkN Builtin.Slice.slicePlaces Builtin.Slice.sliceAdjust
  have a : ¬ k < 0 := by omega
  have b : k > 0 := by omega
  have key : ∀ z : Int, 0 ≤ z → z ≤ n → ((if z < (n : Int) then ((n : Int) - z - 1) / k + 1 else 0) : Int).toNat ≤ n := fun z h0 h1 => by
    split
    · have : ((n : Int) - z - 1) / k ≤ (n : Int) - z - 1 := Int.ediv_le_self _ (by omega)
      have : 0 ≤ ((n : Int) - z - 1) / k := Int.ediv_nonneg (by omega) (by omega)
      omega
    · omega
  cases lo with
  | none =>
    simp only [a, b, if_false, if_true]
    exact key 0 (by omega) (by omega)
  | some c =>
    have hc := hl c rfl
    simp only [a, b, if_false, if_true, show ¬ c < 0 by omega]
    exact key (min c n) (by omega) (by omega)
theorem pick_len {α : Type} {lo : Option Int} {k : Int} (hk : 2 ≤ k) (hl : ∀ c, lo = some c → 0 ≤ c) (xs : List α) : (pick lo k xs).length ≤ xs.length := by
  unfold pick
  refine Nat.le_trans (List.length_filterMap_le _ _) ?_
  rw [List.length_range]
  exact pkN_le hk hl _
theorem pick_map {α β : Type} (f : α → β) (lo : Option Int) (k : Int) (xs : List α) : pick lo k (xs.map f) = (pick lo k xs).map f := by
  unfold pick
  rw [List.length_map, List.map_filterMap]
  congr 1
  funext m
  rw [List.getElem?_map]
theorem pick_mem {α : Type} {lo : Option Int} {k : Int} {xs : List α} {x : α} (h : x ∈ pick lo k xs) : x ∈ xs := by
  unfold pick at h
  obtain ⟨m, _, e⟩ := List.mem_filterMap.mp h
  exact List.mem_of_getElem? e
section
variable {prog : Program} {w : World} {A : Around} {E : Value → Shared → Prop} {s : Shared}
theorem getItem_step {t sl : Addr} {items : Array Value} {vl vu vk : Value} {lo : Option Int} {k : Int} {Q : Value → Shared → Prop} (hk : 2 ≤ k) (hl : ∀ c, lo = some c → 0 ≤ c) (ht : IsTup s.heap t items) (hs : s.heap.IsSliceOf sl vl vu vk) (pl : IsPart vl lo) (pu : IsPart vu none) (pk : IsPart vk (some k))
    (h : Q (.ref s.heap.objs.size) { s with heap := s.heap.push { cls := .type "tuple", data := .seq (pick lo k items.toList).toArray } })
    (hsz : items.size ≤ sizeLine) : wpAny (model prog w) A (getItem (.ref t) (.ref sl)) Q E s := by
  have hok : sizeOk (.seq (pick lo k items.toList).toArray) := by
    have h1 := pick_len hk hl items.toList
    have h2 : (pick lo k items.toList).toArray.size = (pick lo k items.toList).length := List.size_toArray ..
    have h3 : items.toList.length = items.size := Array.length_toList ..
    show (pick lo k items.toList).toArray.size ≤ sizeLine
    rw [h2]
    omega
  obtain ⟨os, hos, hcs, hds⟩ := id hs
  have hTs : s.TypeIs (.ref sl) "slice" := ⟨os, hos, hcs⟩
  have sa : ∀ {Q : Int × Int × Nat → Shared → Prop}, Q (pkA lo k items.size, k, pkN lo k items.size) s → wpAny (model prog w) A.in1 (Builtin.Slice.sliceApplied (.ref sl) (pure (items.size : Int))) Q E s := fun {Q} h => by
    unfold Builtin.Slice.sliceApplied Builtin.Slice.sliceFields
    refine wpAny_bind (wpAny_bind (wpAny_field hos hds (x := vl) rfl (wpAny_bind (wpAny_field hos hds (x := vu) rfl (wpAny_bind (wpAny_field hos hds (x := vk) rfl (wpAny_pure ?_)))))))
    refine wpAny_bind (HT.slicePart_ pk ?_)
    show wpAny _ _ (if (k == 0) = true then _ else _) _ _ s
    rw [if_neg (by intro e; have := eq_of_beq e; omega)]
    refine wpAny_bind (HT.slicePart_ pl (wpAny_bind (HT.slicePart_ pu (wpAny_bind (wpAny_pure ?_)))))
    show wpAny _ _ (pure ((Builtin.Slice.sliceAdjust lo none k (items.size : Int)).1, k, Builtin.Slice.slicePlaces (Builtin.Slice.sliceAdjust lo none k (items.size : Int)).1 (Builtin.Slice.sliceAdjust lo none k (items.size : Int)).2 k)) _ _ s
    exact wpAny_pure h
  have ep : ((List.range (pkN lo k items.size)).filterMap fun (m : Nat) => items[(pkA lo k items.size + (m : Int) * k).toNat]?).toArray = (pick lo k items.toList).toArray := by
    unfold pick
    rw [Array.length_toList]
    congr 2
    funext m
    rw [Array.getElem?_toList]
  unfold getItem
  try with_reducible refine wpAny_holding ?_
  first | refine wpAny_bind (wpAny_pure ?_) | skip
  refine wpAny_bind (wpAny_sequenceKey ht.typeIs (by decide) ?_)
  refine wpAny_bind (wpAny_callSpecial?_slot (name := Str.ofString "__getitem__") ht.typeIs PyProof.Rows.slot_tuple_getitem
    (wpAny_call_entry PyProof.Rows.slot_tuple_getitem ht.typeIs PyProof.Rows.entry_tuple_getitem ?_ (PyProof.Rows.args_tuple_getitem _ _)))
  show wpAny _ _ (Builtin.Tuple.tupleItemsOf (.ref t) >>= _) _ _ s
  refine wpAny_bind (PyProof.Rows.tupleItemsOf_ ht ?_)
  refine wpAny_bind (wpAny_typeOf hTs ?_)
  rw [if_pos (by decide)]
  refine wpAny_bind (sa ?_)
  show wpAny _ _ (if (pkA lo k items.size == 0 && k == 1 && pkN lo k items.size == items.size) = true then _ else _) _ _ s
  rw [if_neg (by intro q; rw [Bool.and_eq_true, Bool.and_eq_true] at q; have := eq_of_beq q.1.2; omega), ep]
  first
    | exact wpAny_bind (m := Builtin.Tuple.tupleExact _) (wpAny_newObj_type (wpAny_pure ⟨_, rfl, wpAny_pure h⟩) hok)
    | exact wpAny_bind (m := Builtin.Tuple.tupleExact _) (wpAny_newObj_type (wpAny_bind (wpAny_pure (wpAny_pure ⟨_, rfl, wpAny_pure h⟩))) hok)
    | exact wpAny_bind (wpAny_bind (m := Builtin.Tuple.tupleExact _) (wpAny_newObj_type (wpAny_pure (wpAny_pure ⟨_, rfl, wpAny_pure h⟩)) hok))
    | exact wpAny_bind (wpAny_bind (m := Builtin.Tuple.tupleExact _) (wpAny_newObj_type (wpAny_pure ⟨_, rfl, wpAny_pure h⟩) hok))
end
theorem vals_pick {vs : List V} {us : List Value} (r : Vals vs us) (lo : Option Int) (k : Int) : Vals (pick lo k vs) (pick lo k us) := by
  have e := r.length
  unfold pick
  rw [← e]
  generalize List.range (pkN lo k vs.length) = l
  generalize pkA lo k vs.length = c
  induction l with
  | nil => exact .nil
  | cons m l ih =>
    rw [List.filterMap_cons, List.filterMap_cons]
    cases h : vs[(c + (m : Int) * k).toNat]? with
    | none =>
      have : us[(c + (m : Int) * k).toNat]? = none := by
        rw [List.getElem?_eq_none_iff] at h ⊢
        omega
      rw [this]
      exact ih
    | some v =>
      obtain ⟨u, hu, rv⟩ := r.get h
      rw [hu]
      exact .cons rv ih
section
variable {X : Cx}
def tPickA (K : PySem.W.Frag) (lo : Option Int) (k : Int) (te : TE) : TE := fun σ H Q => te σ H fun x H1 => ∃ a xs, x = .ref a ∧ SqT K H1 a xs ∧ ∀ p, H1 p = none → Q (.ref p) (upd H1 p (.tup (pick lo k xs)))
theorem pe_pickA {e : Expr} {te : TE} {ol : Option Expr} {lo : Option Int} {k : Nat} {kk : Nat} {p1 p3 pos : Pos} (he : PE X e te) (hk : 2 ≤ (k : Int)) (hl : ∀ c, lo = some c → 0 ≤ c) (hol : PO X ol (fun σ H Q => Q lo H)) :
    PE X (.Subscript e (.Slice ol none (some (.Constant (.int (k : Int)) kk p1)) p3) pos) (tPickA X.K lo k te) := by
  refine ⟨fun pins s σ H Q I h => ?_⟩
  refine Subscript_ (thn (he.run pins s σ H _ I h) fun v s1 ⟨x, H1, I1, r1, a, xs, ex, hx, q⟩ => ?_)
  subst ex
  cases r1
  have hst : PO X (some (.Constant (.int (k : Int)) kk p1)) (tPart (tC (.int (k : Int)))) := po_some pe_int
  refine wpAny_Slice (thn (hol.run pins s1 σ H1 (fun o z2 => o = lo ∧ z2 = H1) I1 ⟨rfl, rfl⟩) fun vl s2 ⟨l, H2, I2, pl, el, e2⟩ => ?_)
  subst el e2
  refine thn (po_none.run pins s2 σ H2 (fun o z3 => o = none ∧ z3 = H2) I2 ⟨rfl, rfl⟩) fun vu s3 ⟨u, H3, I3, pu, eu, e3⟩ => ?_
  subst eu e3
  refine thn (hst.run pins s3 σ H3 (fun o z4 => o = some (k : Int) ∧ z4 = H3) I3 ⟨_, rfl, rfl, rfl⟩) fun vs s4 ⟨o, H4, I4, ps, eo, e4⟩ => ?_
  subst eo e4
  have I5 : Inv X pins σ H4 { s4 with heap := s4.heap.push { cls := .type "slice", data := .fields #[vl, vu, vs] } } := I4.kept (t' := s4.toks) fun b ob q => Heap.get?_push_of_some _ q
  show wpAny (model X.prog X.w) X.A (subscriptTail e (.Slice ol none (some (.Constant (.int (k : Int)) kk p1)) p3) (.ref a) (.ref s4.heap.objs.size)) (EP X pins σ Q) X.xe { s4 with heap := s4.heap.push { cls := .type "slice", data := .fields #[vl, vu, vs] } }
  obtain ⟨its, r, ht, hz⟩ := I5.tuple hx
  have hlen := r.length
  refine tail_any (ops := [.ref a, .ref s4.heap.objs.size]) ht.typeIs PyProof.Rows.slot_tuple_getitem.lookup ?_ (by with_unfolding_all rfl)
  refine getItem_step hk hl ht (Heap.IsSliceOf.new _ vl vu vs) pl pu ps ?_ (by rw [List.size_toArray]; omega)
  refine ⟨.ref _, _, I5.laid (t' := s4.toks) (o := .tup (pick l k xs)) (fun b ob z => Heap.get?_push_of_some _ z) (Nat.le_refl _) ?_, rfl, q _ (I5.hok.fresh (Nat.le_refl _))⟩
  exact ⟨by have := pick_len hk hl xs; omega, _, vals_pick r l k, IsTup.new _ _⟩
end
/-! as data -/
def pickD (lo : Option Int) (k : Int) : D → PD → MS → Prop
  | .tup ds, R, M => R (.tup (pick lo k ds)) M
  | _, _, _ => False
def dPick (lo : Option Int) (k : Int) (te : DTE) : DTE := fun ρ R E M => te ρ (fun d M1 => pickD lo k d R M1) E M
theorem RelA.pickBy {K : ZK} {H : Hp} {M : MS} {vs : List V} {ds : List D} (r : RelA K H M vs ds) (lo : Option Int) (k : Int) : RelA K H M (DL.pick lo k vs) (DL.pick lo k ds) := by
  have e := r.length
  unfold DL.pick
  rw [← e]
  generalize List.range (pkN lo k vs.length) = l
  generalize pkA lo k vs.length = c
  induction l with
  | nil => exact .nil
  | cons m l ih =>
    rw [List.filterMap_cons, List.filterMap_cons]
    cases h : vs[(c + (m : Int) * k).toNat]? with
    | none =>
      have : ds[(c + (m : Int) * k).toNat]? = none := by
        rw [List.getElem?_eq_none_iff] at h ⊢
        omega
      rw [this]
      exact ih
    | some v =>
      obtain ⟨d, hd, rv⟩ := relA_get r _ _ h
      rw [hd]
      exact .cons rv ih
theorem de_pick {X : Cx} {W : WX} {e : Expr} {te : DTE} {ol : Option Expr} {lo : Option Int} {k kk : Nat} {p1 p3 pos : Pos} (he : DE X W e te) (hol : PO X ol (fun σ H Q => Q lo H)) (hk : 2 ≤ (k : Int) := by decide) (hl : ∀ c, lo = some c → 0 ≤ c := by intro c h; cases h <;> decide) :
    DE X W (.Subscript e (.Slice ol none (some (.Constant (.int (k : Int)) kk p1)) p3) pos) (dPick lo k te) :=
  imp (pe_pickA he hk hl hol) fun σ H Q ⟨z, ρ, M, R, E, hs, hm, h, hc, hE⟩ =>
    ⟨z, ρ, M, _, E, hs, hm, h, fun d M1 v H1 h1 m1 r1 e1 => by
      have h1 : pickD lo k d R M1 := h1
      unfold pickD at h1
      split at h1
      · cases r1 with
        | tup s ra => exact ⟨_, _, rfl, s, fun p hp => hc _ _ _ _ h1 (relM_new m1 hp) (.tup (SqT.of upd_same) ((ext_new m1 hp).all (ra.pickBy lo k))) (e1.trans (ext_new m1 hp))⟩
      · exact h1.elim, hE⟩
theorem po_cst {X : Cx} {c : Int} {kk : Nat} {p : Pos} : PO X (some (.Constant (.int c) kk p)) (fun σ H Q => Q (some c) H) :=
  ⟨fun pins s σ H Q I h => (po_some (pe_int (X := X) (i := c))).run pins s σ H Q I ⟨c, rfl, h⟩⟩
section
variable {ρ : Sl} {R : PD} {E : XP} {M : MS} {te : DTE} {xs : List D} {lo : Option Int} {k : Int}
theorem v_pick : dPick lo k te ρ R E M = te ρ (fun d M1 => pickD lo k d R M1) E M := (rfl)
theorem q_pick : pickD lo k (.tup xs) R M = R (.tup (pick lo k xs)) M := (rfl)
end
/-! x in t, x not in t for tuples whose display is not seen -/
end L2.DL
/-! DLzz: sorted(t), t a tuple of pairs of whole numbers -/
namespace SrtO
open PySem PySem.Spec PyProof.Rows
section
variable {prog : Program} {w : World} {A : Around} {E : Value → Shared → Prop} {s : Shared}
theorem collect_tupleT {l : Addr} {vs : List Value} {Q : List Value → Shared → Prop} (hl : IsTup s.heap l vs.toArray)
    (h : Q vs { s with heap := (s.heap.push (seqObj "list" #[] 0)).update s.heap.objs.size (Obj.mapSeq (· ++ vs.toArray)) }) (hsz : vs.length ≤ sizeLine) :
    wpAny (model prog w) A (collect (.ref l)) Q E s := by
  obtain ⟨o, ho, hc, n, hd⟩ := id hl
  unfold collect
  refine wpAny_bind (wpAny_runValue (codeAny_builtin entry_proto_collect' ?_))
  show wpAny _ _ (do again (.builtin "list.__iadd__" ⟨[← newList [], .ref l], []⟩)) _ _ s
  refine wpAny_bind (wpAny_newList (wpAny_pure ⟨Code.quiet_builtin _ (by decide +kernel), codeAny_builtin entry_list_iadd' ?_⟩))
  show wpAny _ _ (Builtin.List.listExtendWith (.ref s.heap.objs.size) (.ref l) (.ref s.heap.objs.size)) _ _ { s with heap := s.heap.push (seqObj "list" #[] 0) }
  unfold Builtin.List.listExtendWith
  have ho' : (s.heap.push (seqObj "list" #[] 0)).get? l = some o := Heap.get?_push_of_some _ ho
  refine wpAny_bind (wpAny_typeOf (T := "tuple") ⟨o, ho', hc⟩ ?_)
  have ht : (Value.type "tuple" == Value.type "tuple") = true := by rfl
  rw [if_pos (by rw [ht]; simp)]
  refine wpAny_bind (listItems_at ho' hd ?_)
  refine wpAny_bind (listItems_at (xs := #[]) (n := 0) (Heap.get?_push_size _ rfl) rfl ?_)
  rw [if_neg (by simp)]
  refine wpAny_bind (listUpdate_at (xs := #[]) (n := 0) (Heap.get?_push_size _ rfl) rfl ?_ (Nat.zero_le _) (by show (#[] ++ vs.toArray).size ≤ sizeLine + 1; simp only [Array.size_append, List.size_toArray, List.length_nil]; omega))
  refine wpAny_pure ?_
  show wpAny (model prog w) A (do
      let o ← load s.heap.objs.size
      match o.data with
      | .seq xs _ => pure xs.toList
      | _ => unsupported "internal:collect") Q E { s with heap := (s.heap.push (seqObj "list" #[] 0)).update s.heap.objs.size (Obj.mapSeq (· ++ vs.toArray)) }
  refine wpAny_bind (wpAny_load (get?_update_seq (Heap.get?_push_size _ rfl) _) ?_)
  show wpAny _ _ (pure ((#[] : Array Value) ++ vs.toArray).toList) Q E _
  rw [show ((#[] : Array Value) ++ vs.toArray).toList = vs by simp]
  exact wpAny_pure h
theorem sorted_ordT {l : Addr} {vs : List Value} {ltv : Value → Value → Bool} {Q : Value → Shared → Prop} (O : Swo ltv) (hl : IsTup s.heap l vs.toArray) (hz : vs.length ≤ sizeLine)
    (hS : 2 ≤ vs.length → ∀ (h₁ : Heap) (a : Addr), h₁.get? a = some (seqObj "list" vs.toArray 0) → (∀ b o, s.heap.get? b = some o → b ≠ a ∧ h₁.get? b = some o) → SortableO prog w A.in1.in1 { s with heap := h₁ } a vs ltv)
    (h : ∀ out : List Value, Srtd ltv out → Stb ltv out vs → Q (.ref (s.heap.objs.size + 1)) { s with heap := sortedAll s.heap vs out.toArray }) :
    wpAny (model prog w) A (call (.builtin "sorted") [.ref l]) Q E s := by
  refine Calls.call_function_entry kind_sorted plain_sorted entry_sorted (args_sorted1 _) ?_
  unfold Builtin.«sorted»
  refine wpAny_bind (m := checkCount "sorted" 1 1 _) (wpAny_pure ?_)
  refine wpAny_bind (collect_tupleT hl ?_ hz)
  refine wpAny_bind (wpAny_newList ?_ hz)
  have hsz : ((s.heap.push (seqObj "list" #[] 0)).update s.heap.objs.size (Obj.mapSeq (· ++ vs.toArray))).objs.size = s.heap.objs.size + 1 := by
    rw [Heap.size_update, size_push']
  have hoL : (((s.heap.push (seqObj "list" #[] 0)).update s.heap.objs.size (Obj.mapSeq (· ++ vs.toArray))).push (seqObj "list" vs.toArray 0)).get? (s.heap.objs.size + 1) = some (seqObj "list" vs.toArray 0) := by
    rw [← hsz]; exact Heap.get?_push_size _ rfl
  have keep : ∀ b o, s.heap.get? b = some o → b ≠ s.heap.objs.size + 1 ∧ (((s.heap.push (seqObj "list" #[] 0)).update s.heap.objs.size (Obj.mapSeq (· ++ vs.toArray))).push (seqObj "list" vs.toArray 0)).get? b = some o := fun b o q => by
    have hlt : b < s.heap.objs.size := Heap.lt_size q
    refine ⟨Nat.ne_of_lt (Nat.lt_succ_of_lt hlt), Heap.get?_push_of_some _ ?_⟩
    rw [Heap.get?_update_ne _ _ _ _ (Nat.ne_of_lt hlt)]
    exact Heap.get?_push_of_some _ q
  show wpAny _ _ _ _ _ { s with heap := ((s.heap.push (seqObj "list" #[] 0)).update s.heap.objs.size (Obj.mapSeq (· ++ vs.toArray))).push (seqObj "list" vs.toArray 0) }
  rw [hsz]
  refine wpAny_bind (wpAny_holding (wpAny_call_entry slot_list_sort ⟨_, hoL, rfl⟩ entry_list_sort (list_sort_ord O hoL hz (fun h2 => hS h2 _ _ hoL keep) fun out hs hb => ⟨_, rfl, ?_⟩) (args_list_sort _)))
  exact wpAny_pure ⟨_, rfl, h out hs hb⟩
theorem sorted_pairsT {l : Addr} {vs : List Value} {k : Value → Int × Int} {Q : Value → Shared → Prop} (hl : IsTup s.heap l vs.toArray) (hz : vs.length ≤ sizeLine) (hp : ∀ v ∈ vs, Srt.IsPair s.heap v (k v).1 (k v).2)
    (h : ∀ (h' : Heap) (d : Addr) (out : List Value), Srtd (fun v u => lexB (k v) (k u)) out → Stb (fun v u => lexB (k v) (k u)) out vs → (∀ b o, s.heap.get? b = some o → h'.get? b = some o) → s.heap.objs.size ≤ d → (∃ n, h'.get? d = some (seqObj "list" out.toArray n)) → Q (.ref d) { s with heap := h' }) :
    wpAny (model prog w) A (call (.builtin "sorted") [.ref l]) Q E s := by
  refine sorted_ordT (swo_lex k) hl hz (fun h2 h₁ a ha kk => ?_) fun out hs hb => ?_
  · refine pairs_sortableO (s := { s with heap := h₁ }) (by omega) (fun v hm => (hp v hm).keeps fun b o e _ => (kk b o e).2) fun o e => ?_
    have e' : some o = some (seqObj "list" vs.toArray 0) := e.symm.trans ha
    cases e'
    intro c
    exact absurd (Value.type.inj c) (by decide)
  · exact h _ _ out hs hb (fun b o e => sortedAll_old e) (Nat.le_succ _) (sortedAll_at s.heap vs out.toArray)
end
end SrtO
namespace L2
open PySem PySem.Spec PyProof.Rows
section
variable {X : Cx}
open Classical in
/-- sorted(t), t a tuple of pairs of ints -/
def rSortedTP (K : PySem.W.Frag) : List V → Hp → VK → Prop := fun vs H Q => ∃ (a : Addr) (xs : List V), vs = [V.ref a] ∧ SqT K H a xs ∧ (∀ x ∈ xs, ∃ t i j, x = V.ref t ∧ SqT K H t [.int i, .int j]) ∧
  ∀ ys p, ys.Perm xs → H p = none → Q (.ref p) (upd H p (.lst ys))
open Classical in
theorem cr_sortedTP : CallR X (.builtin "sorted") (rSortedTP X.K) := by
  intro pins s σ H vs us Q I r h
  obtain ⟨a, xs, rfl, hs, hx, q⟩ := h
  obtain ⟨its, rv, ht, hz⟩ := I.tuple hs
  obtain ⟨u, rfl, ru⟩ := vals1 r
  obtain rfl : u = Value.ref a := ru
  obtain ⟨e1, e2⟩ := refs_back rv fun x m => by
    obtain ⟨t, _, _, e, _⟩ := hx x m
    exact ⟨t, e⟩
  have pr : ∀ v ∈ its, ∃ p : Int × Int, Srt.IsPair s.heap v p.1 p.2 := fun v hv => by
    obtain ⟨t, rfl⟩ := e2 v hv
    have hm : V.ref t ∈ xs := by rw [e1]; exact List.mem_map.mpr ⟨_, hv, rfl⟩
    obtain ⟨t', i, j, e, ht⟩ := hx _ hm
    cases e
    obtain ⟨its2, r2, ⟨o, ho, hc, n, hd⟩, _⟩ := I.tuple ht
    obtain ⟨u1, u2, rfl, ri, rj⟩ := vals2 r2
    obtain ⟨t1, rfl⟩ := ri
    obtain ⟨t2, rfl⟩ := rj
    exact ⟨(i, j), t, o, t1, t2, n, rfl, ho, hc, hd⟩
  refine SrtO.sorted_pairsT (k := fun v => if h : ∃ p : Int × Int, Srt.IsPair s.heap v p.1 p.2 then Classical.choose h else (0, 0)) ht (by rw [← rv.length]; exact hz) (fun v hv => ?_) fun h' d out h1 h2 k hd hn => ?_
  · have e := pr v hv
    rw [dif_pos e]
    exact Classical.choose_spec e
  · have hp := h2.perm
    have h3 : ∀ u ∈ out, ∃ a, u = Value.ref a := fun u hu => e2 u (hp.mem_iff.mp hu)
    obtain ⟨n, hn⟩ := hn
    refine ⟨.ref d, upd H d (.lst (out.map backV)), I.laid (t' := s.toks) k hd ⟨?_, out, n, vals_back h3, hn⟩, rfl, q _ d ?_ (I.hok.fresh hd)⟩
    · rw [List.length_map, hp.length_eq, ← rv.length]; exact hz
    · rw [e1]; exact hp.map backV
end
end L2
namespace L2.DL
open PySem PySem.Spec PyProof.Rows
variable [Tbs]
theorem RelA.perm {K : ZK} {H : Hp} {M : MS} {xs ys : List V} (h : ys.Perm xs) : ∀ {ds : List D}, RelA K H M xs ds → ∃ ds', RelA K H M ys ds' ∧ ds'.Perm ds := by
  have h' := h.symm
  clear h
  induction h' with
  | nil => intro ds r; exact ⟨ds, r, .refl _⟩
  | cons x p ih =>
    intro ds r
    cases r with
    | cons a b =>
      obtain ⟨ds', r', p'⟩ := ih b
      exact ⟨_, .cons a r', p'.cons _⟩
  | swap x y l =>
    intro ds r
    cases r with
    | cons a b =>
      cases b with
      | cons b c => exact ⟨_, .cons b (.cons a c), .swap ..⟩
  | trans _ _ ih1 ih2 =>
    intro ds r
    obtain ⟨d1, r1, p1⟩ := ih1 r
    obtain ⟨d2, r2, p2⟩ := ih2 r1
    exact ⟨d2, r2, p2.trans p1⟩
def sorTPD : List D → PD → MS → Prop
  | [.tup es], R, M => (∀ e, e ∈ es → ∃ i j : Int, e = .tup [.int i, .int j]) ∧ ∀ es' : List D, es'.Perm es → R (.lst es') M
  | _, _, _ => False
theorem relA_mem {K : ZK} {H : Hp} {M : MS} : ∀ {vs : List V} {ds : List D}, RelA K H M vs ds → ∀ v, v ∈ vs → ∃ d, d ∈ ds ∧ Rel K H M v d
  | _, _, .nil, v, h => by cases h
  | _, _, .cons a b, v, h => by
    rcases List.mem_cons.mp h with rfl | h
    · exact ⟨_, .head _, a⟩
    · obtain ⟨d, h1, h2⟩ := relA_mem b v h
      exact ⟨d, .tail _ h1, h2⟩
theorem c_sortedTP {X : Cx} : CallD X (.builtin "sorted") sorTPD := by
  refine ⟨_, cr_sortedTP, fun z H M xs vs R Q m ra h hc => ?_⟩
  unfold sorTPD at h
  split at h
  · cases ra with
    | cons x y =>
      cases y
      obtain ⟨hp, q⟩ := h
      cases x with
      | tup s ra =>
        refine ⟨_, _, rfl, s, fun v hv => ?_, fun ys p pm hn => ?_⟩
        · obtain ⟨d, hd, r⟩ := relA_mem ra v hv
          obtain ⟨i, j, rfl⟩ := hp d hd
          cases r with
          | tup s2 r2 =>
            cases r2 with
            | cons r3 r4 =>
              cases r4 with
              | cons r5 r6 =>
                cases r6
                cases r3
                cases r5
                exact ⟨_, i, j, rfl, s2⟩
        · obtain ⟨es', r', p'⟩ := RelA.perm pm ra
          exact hc _ _ _ _ (q es' p') (relM_new m hn) (.lst (fz_new m hn) ((ext_new m hn).all r')) (ext_new m hn)
  · exact h.elim
end L2.DL
namespace L2.DL
open PySem PySem.Spec PyProof.Rows
variable [Tbs]
local macro_rules | `(tactic| walk_at "dd") => `(tactic| simp only [v_seq, v_next, v_never, v_set, v_ret, v_retN, v_ifS, v_expr, v_asg, v_par3, v_asgS2, q_lstT, q_lstL, q_lstNT, v_par, v_sub, v_for, v_forN, v_forC, v_break, v_cont, v_nm, v_tp, v_tpL, v_tpN, v_tpC, v_var, v_sl0, v_slS, v_c, v_nil, v_cons, v_tup, v_lst, v_lstN, v_op, v_un, v_ix, v_tst, v_tru, v_and, v_or, v_not, v_andV, v_orV, v_notV, v_if, v_ifV, q_selI, v_chain, v_noP, v_part, v_sl, v_cb, v_mt, v_call, v_items, v_enum, q_enuT, q_enuL, v_zip, v_stepL, q_and1, v_callN, v_callV, v_pmN, v_pmC, v_gt0, v_gtS, v_apN, v_apC, v_sortSet, v_getK, v_putK, v_get2K, v_dict0, v_disp, v_mt0, v_prN, v_prC, v_sortSetU, v_callX, v_gX, v_inRng, v_pick, q_pick, q_zipT, q_zipL, v_rng1, v_rng2, v_lc, v_lcN, v_lcC, v_forL, v_lcL, dm_um, um_dm, v_yes, v_wN, v_wC, v_st0, v_stC, v_stN,
  q_add, q_mulS, q_addT, q_addS, q_addL, q_sub, q_mul, q_fdiv, q_mod, q_pow, q_neg, q_ii, q_eqI, q_eqS, q_eqB, q_is, q_it0, q_it1, q_it2, q_it3, q_ixT, q_ixL, q_ixR, q_setL, q_lenT, q_lenL, q_lenR, q_slT, q_slL, q_slC, q_app, q_ext, q_isL, q_strI, q_strS, v_fmt, q_fmtI, q_fmtS, v_lrng1, v_lrng2, v_chain3, v_raise, v_isX, v_fldX, v_try, v_join, v_jsN, v_jsC, q_strW, v_rng3, q_isLL, q_cntB, q_cntI, v_lz, q_zs, v_step, v_rev, q_revT, q_revL, q_revR, q_addN, q_addNL, q_addR, q_slR, q_isX, q_isB, q_isi_non_int, q_isi_non_bool, q_isi_non_str, q_isi_non_tuple, q_isi_non_list, q_isi_bl_int, q_isi_bl_bool, q_isi_bl_str, q_isi_bl_tuple, q_isi_bl_list, q_isi_int_int, q_isi_int_bool, q_isi_int_str, q_isi_int_tuple, q_isi_int_list, q_isi_str_int, q_isi_str_bool, q_isi_str_str, q_isi_str_tuple, q_isi_str_list, q_isi_tup_int, q_isi_tup_bool, q_isi_tup_str, q_isi_tup_tuple, q_isi_tup_list, q_isi_lst_int, q_isi_lst_bool, q_isi_lst_str, q_isi_lst_tuple, q_isi_lst_list, q_tupL, q_tupT, q_tupR, q_tb, q_tn, q_ti, q_tt, q_tl, q_abs, q_min, q_max, q_intI, q_intB, q_dnx, q_drt, q_dbk, q_dct, q_dex, q_ixN0, q_ixN1, q_ixN2, q_ixN3, exists_and_left, um_same, um_um,
  List.set_cons_zero, List.set_cons_succ, List.length_cons, List.length_nil, isNon, id, Int.lt_irrefl, decide_eq_true_eq, Bool.not_eq_true', decide_eq_false_iff_not, Bool.not_false, Bool.not_true, not_true_eq_false, not_false_eq_true, if_true, if_false, Bool.false_eq_true, ite_true, ite_false, eq_self, true_and, and_true, Option.some.injEq, MO.lst.injEq, exists_eq_left', exists_eq_left, ends])
local macro_rules | `(tactic| walk_at "dn") => `(tactic| simp only [v_seq, v_next, v_never, v_set, v_ret, v_retN, v_ifS, v_expr, v_asg, v_par3, v_asgS2, q_lstT, q_lstL, q_lstNT, v_par, v_sub, v_for, v_break, v_cont, v_nm, v_tp, v_tpL, v_tpN, v_tpC, v_var, v_sl0, v_slS, v_c, v_nil, v_cons, v_tup, v_lst, v_lstN, v_op, v_un, v_ix, v_tst, v_tru, v_and, v_or, v_not, v_andV, v_orV, v_notV, v_if, v_ifV, q_selI, v_chain, v_noP, v_part, v_sl, v_cb, v_mt, v_call, v_items, v_enum, q_enuT, q_enuL, v_zip, v_stepL, q_and1, v_callN, v_callV, v_pmN, v_pmC, v_gt0, v_gtS, v_apN, v_apC, v_sortSet, v_getK, v_putK, v_get2K, v_dict0, v_disp, v_mt0, v_prN, v_prC, v_sortSetU, v_callX, v_gX, v_inRng, v_pick, q_pick, q_zipT, q_zipL, v_rng1, v_rng2, v_lc, v_forL, v_lcL, dm_um, um_dm, v_yes, v_wN, v_wC, v_st0, v_stC, v_stN,
  q_add, q_mulS, q_addT, q_addS, q_addL, q_sub, q_mul, q_fdiv, q_mod, q_pow, q_neg, q_ii, q_eqI, q_eqS, q_eqB, q_is, q_it0, q_it1, q_it2, q_it3, q_ixT, q_ixL, q_ixR, q_setL, q_lenT, q_lenL, q_lenR, q_slT, q_slL, q_slC, q_app, q_ext, q_isL, q_strI, q_strS, v_fmt, q_fmtI, q_fmtS, v_lrng1, v_lrng2, v_chain3, v_raise, v_isX, v_fldX, v_try, v_join, v_jsN, v_jsC, q_strW, v_rng3, q_isLL, q_cntB, q_cntI, v_lz, q_zs, v_step, v_rev, q_revT, q_revL, q_revR, q_addN, q_addNL, q_addR, q_slR, q_isX, q_isB, q_isi_non_int, q_isi_non_bool, q_isi_non_str, q_isi_non_tuple, q_isi_non_list, q_isi_bl_int, q_isi_bl_bool, q_isi_bl_str, q_isi_bl_tuple, q_isi_bl_list, q_isi_int_int, q_isi_int_bool, q_isi_int_str, q_isi_int_tuple, q_isi_int_list, q_isi_str_int, q_isi_str_bool, q_isi_str_str, q_isi_str_tuple, q_isi_str_list, q_isi_tup_int, q_isi_tup_bool, q_isi_tup_str, q_isi_tup_tuple, q_isi_tup_list, q_isi_lst_int, q_isi_lst_bool, q_isi_lst_str, q_isi_lst_tuple, q_isi_lst_list, q_tupL, q_tupT, q_tupR, q_tb, q_tn, q_ti, q_tt, q_tl, q_abs, q_min, q_max, q_intI, q_intB, q_dnx, q_drt, q_dbk, q_dct, q_dex, q_ixN0, q_ixN1, q_ixN2, q_ixN3, exists_and_left, um_same, um_um,
  List.set_cons_zero, List.set_cons_succ, List.length_cons, List.length_nil, isNon, id, Int.lt_irrefl, decide_eq_true_eq, Bool.not_eq_true', decide_eq_false_iff_not, Bool.not_false, Bool.not_true, not_true_eq_false, not_false_eq_true, if_true, if_false, Bool.false_eq_true, ite_true, ite_false, eq_self, true_and, and_true, Option.some.injEq, MO.lst.injEq, exists_eq_left', exists_eq_left, ends])





abbrev excD : List Str := ["NoPaper"]
def supT : List (Str × List Str) := [("NoPaper", ["NoPaper", "InkError", "ValueError", "Exception", "BaseException", "object"])]
def subX (C T : Str) : Bool := ((supT.lookup C).getD []).contains T
/-! points, rings, paths as data; the laws' drawn ones -/
abbrev Pt := Int × Int
def ePt (p : Pt) : D := .tup [.int p.1, .int p.2]
def eRing (r : List Pt) : D := .tup (r.map ePt)
def ePath (P : List (List Pt)) : D := .tup (P.map eRing)

/-! small helpers of the walks -/
theorem it_lit {ns : List Int} {P : Int → Prop} (hp : ∀ i, i ∈ ns → P i) {r : Int} {R : PD} {M : MS} (h0 : 0 ≤ r) (h1 : r < ns.length) (k : ∀ i, P i → R (.int i) M) : itD (ns.map D.int) r R M := by
  refine it_in h0 (by rw [List.length_map]; exact h1) fun d hd => ?_
  obtain ⟨i, hi, rfl⟩ := List.mem_map.mp hd
  exact k i (hp i hi)
theorem lg_of {i : Int} (h : -1000000000 ≤ i ∧ i ≤ 1000000000) : i.natAbs.log2 < 31 := (bd_of (n := 31) (show i.natAbs < 2 ^ 31 by omega)).log (by decide)
theorem cms {i j : Int} (hi : -1000000000 ≤ i ∧ i ≤ 1000000000) (hj : -1000000000 ≤ j ∧ j ≤ 1000000000) : CMulX i j := (bd_of (n := 31) (show i.natAbs < 2 ^ 31 by omega)).cmul (bd_of (n := 31) (show j.natAbs < 2 ^ 31 by omega)) (by decide) (by decide)
theorem cds {i j : Int} (h0 : j ≠ 0) (hj : -1000000000 ≤ j ∧ j ≤ 1000000000) : CDivX i j := ⟨h0, Nat.lt_trans (lg_of hj) (by decide)⟩
theorem mulB {a b A B : Int} (ha : 0 ≤ a ∧ a ≤ A) (hb : 0 ≤ b ∧ b ≤ B) : 0 ≤ a * b ∧ a * b ≤ A * B := ⟨Int.mul_nonneg ha.1 hb.1, Int.mul_le_mul ha.2 hb.2 hb.1 (by omega)⟩
theorem slz {n : Nat} (h : n ≤ 100000) : n ≤ sizeLine := by rw [sizeLine_eq]; omega
theorem slt {n : Nat} (h : n ≤ 100000) : n < sizeLine := by rw [sizeLine_eq]; omega
theorem rng_c {lo : Int} {n : Nat} : rng lo (n + 1) = .int lo :: rng (lo + 1) n := by
  unfold rng
  rw [List.range_succ_eq_map, List.map_cons, List.map_map]
  congr 1
  · show D.int (lo + 0) = _; rw [Int.add_zero]
  · exact List.map_congr_left fun i _ => by show D.int (lo + ((i + 1 : Nat) : Int)) = D.int (lo + 1 + (i : Int)); congr 1; omega
theorem it_at {ds : List D} {i : Int} {x : D} {R : PD} {M : MS} (n : Nat) (e : i = n) (h : ds[n]? = some x) (k : R x M) : itD ds i R M := by
  subst e
  rw [q_it h]
  exact k
theorem bdi {n : Nat} {i : Int} (h : i.natAbs < 2 ^ n) : Bd n i := h
theorem cut_take {α : Type} (xs : List α) (k : Nat) : cut xs none (some (k : Int)) = xs.take k := by
  unfold cut
  rw [HT.sIx_none, HT.sIx_nat, List.drop_zero, Nat.sub_zero, ← List.take_eq_take_min]
theorem cut_take' {α : Type} (xs : List α) {m : Int} (h : 0 ≤ m) : cut xs none (some m) = xs.take m.toNat := by
  obtain ⟨n, rfl⟩ : ∃ n : Nat, m = n := ⟨m.toNat, by omega⟩
  exact cut_take xs n
theorem cut_drop {α : Type} (xs : List α) (k : Nat) : cut xs (some (k : Int)) none = xs.drop k := by
  unfold cut
  rw [HT.sIx_none, HT.sIx_nat]
  by_cases h : k ≤ xs.length
  · rw [Nat.min_eq_left h, List.take_of_length_le (by rw [List.length_drop]; omega)]
  · rw [List.drop_eq_nil_of_le (show xs.length ≤ min k xs.length by omega), List.drop_eq_nil_of_le (show xs.length ≤ k by omega), List.take_nil]
theorem it_last {ds : List D} {x : D} {R : PD} {M : MS} (h : ds[ds.length - 1]? = some x) (k : R x M) : itD ds (-1) R M := by
  have hl : ds ≠ [] := fun e => by rw [e] at h; cases h
  have hp := List.length_pos_iff.mpr hl
  have e : atI ds (-1) = some x := by
    unfold atI
    have : ixN ds.length (-1) = some (ds.length - 1) := by
      unfold ixN
      simp
      omega
    rw [this]
    exact h
  unfold itD
  rw [e]
  exact k

/-! the feed that is a dict -/
def feedK (cs : List Int) (i l t : Int) : MO := .dk [(.inr "cells", .lst (cs.map D.int)), (.inr "at", .int i), (.inr "left", .int l), (.inr "turn", .int t)]
abbrev kvF (cs : List D) (i l t : D) : List (Key × D) := [(.inr "cells", .lst cs), (.inr "at", i), (.inr "left", l), (.inr "turn", t)]
section
variable {cs : List D} {i l t x : D}
theorem fk_cells : getM (kvF cs i l t) (.inr "cells") = some (.lst cs) := by rfl
theorem fk_at : getM (kvF cs i l t) (.inr "at") = some i := by rfl
theorem fk_left : getM (kvF cs i l t) (.inr "left") = some l := by rfl
theorem fk_turn : getM (kvF cs i l t) (.inr "turn") = some t := by rfl
theorem pk_at : putM (kvF cs i l t) (.inr "at") x = kvF cs x l t := by rfl
theorem pk_left : putM (kvF cs i l t) (.inr "left") x = kvF cs i x t := by rfl
theorem pk_turn : putM (kvF cs i l t) (.inr "turn") x = kvF cs i l x := by rfl
end
/-- a feed with at least b draws left -/
def FdO (o : MO) (b : Nat) : Prop := ∃ cs i l t, o = feedK cs i l t ∧ (0 ≤ i ∧ 0 ≤ l ∧ 0 ≤ t) ∧ i ≤ t ∧ t + b ≤ 100000000
theorem FdO.mono {o : MO} {b c : Nat} (h : FdO o b) (k : c ≤ b) : FdO o c := by
  obtain ⟨cs, i, l, d, e, h1, h2, h3⟩ := h
  exact ⟨cs, i, l, d, e, h1, h2, by omega⟩
def Feed (M : MS) (a : Addr) (b : Nat) : Prop := ∃ o, M a = some o ∧ FdO o b
theorem Feed.mono {M : MS} {a : Addr} {b c : Nat} (h : Feed M a b) (k : c ≤ b) : Feed M a c := by
  obtain ⟨o, e, f⟩ := h
  exact ⟨o, e, f.mono k⟩
theorem Feed.um {M : MS} {a : Addr} {b : Nat} {o : MO} (h : FdO o b) : Feed (um M a o) a b := ⟨o, um_same, h⟩
def g__law_feed : G := fun ds R E M => ∃ (ns : List Int), ds = [.scr ns] ∧ (∀ a o, M a = none → FdO o 99999999 → R (.ref a) (um M a o))
abbrev n__law_feed : List Str := ["script"]
def tb__law_feed : DTS :=
  (dRet (dDisp [(.inr "cells", (dCB lstD (dCons (dSl (dVar 0) dNoPart (dPart (dC (.int 63)))) dNil))), (.inr "at", (dC (.int 0))), (.inr "left", (dC (.int 0))), (.inr "turn", (dC (.int 0)))]))
theorem l__law_feed : ∀ ds R E M, g__law_feed ds R E M → ds.length = 1 := by
  rintro ds R E M ⟨_, rfl, -⟩; rfl
theorem u__law_feed {ns : List Int} {R : PD} {E : Ex → MS → Prop} {M : MS}  (k : ∀ a o, M a = none → FdO o 99999999 → R (.ref a) (um M a o)) : g__law_feed [.scr ns] R E M := ⟨_, rfl, k⟩
theorem h__law_feed : Hg g__law_feed tb__law_feed n__law_feed := by
  rintro ds R E M ⟨ns, rfl, k⟩
  unfold tb__law_feed
  walk_at "dn"
  exact fun p hp => Rw.of (k p _ hp ⟨_, 0, 0, 0, rfl, by decide, by decide, by decide⟩)
def g__law_draw : G := fun ds R E M => ∃ (a : Addr) (n : Int) (b : Nat), ds = [.ref a, .int n] ∧ (0 < n ∧ n ≤ 1000000) ∧ (Feed M a (b + 1)) ∧ (∀ r o, 0 ≤ r → r < n → FdO o b → R (.int r) (um M a o))
abbrev n__law_draw : List Str := ["feed", "many", "turn", "at", "cell", "mixed", "found"]
def tb__law_draw_c8 : DTS :=
  (dSeq (dSet 5 (dOp modD (dOp powD (dOp addD (dOp addD (dOp modD (dVar 4) (dC (.int 2147483629))) (dOp mulD (dC (.int 7919)) (dVar 2))) (dC (.int 1))) (dC (.int 5))) (dC (.int 2147483647))))
  (dSeq (dSet 5 (dOp modD (dOp powD (dOp addD (dVar 5) (dOp mulD (dC (.int 104729)) (dVar 2))) (dC (.int 5))) (dC (.int 2147483587))))
  (dRet (dOp modD (dOp fdivD (dVar 5) (dC (.int 64))) (dVar 1)))))
def tb__law_draw_c7 : DTS :=
  (dSeq (dIfS (dAnd (dTst (dOp geD (dVar 4) (dOp powD (dC (.int 10)) (dC (.int 18))))) (dTst (dOp ltD (dVar 3) (dCB lenD (dCons (dGetK (dVar 0) (dC (.str "cells"))) dNil))))) (dSeq (dPutK (dOp fdivD (dVar 4) (dVar 1)) (dVar 0) (dC (.str "left")))
  (dRet (dOp modD (dVar 4) (dVar 1)))) dNext)
  tb__law_draw_c8)
def tb__law_draw_c3 : DTS :=
  (dSeq (dSet 3 (dGetK (dVar 0) (dC (.str "at"))))
  (dSeq (dPutK (dOp addD (dVar 3) (dC (.int 1))) (dVar 0) (dC (.str "at")))
  (dSeq (dSet 4 (dC (.int 0)))
  (dSeq (dIfS (dTst (dOp (eqD fun k => !k) (dGetK (dVar 0) (dC (.str "cells"))) (dLst dNil))) (dSet 4 (dIx (dGetK (dVar 0) (dC (.str "cells"))) (dOp modD (dVar 3) (dCB lenD (dCons (dGetK (dVar 0) (dC (.str "cells"))) dNil))))) dNext)
  tb__law_draw_c7))))
def tb__law_draw : DTS :=
  (dSeq (dSet 2 (dOp addD (dGetK (dVar 0) (dC (.str "turn"))) (dC (.int 1))))
  (dSeq (dPutK (dVar 2) (dVar 0) (dC (.str "turn")))
  (dSeq (dIfS (dTst (dOp gtD (dGetK (dVar 0) (dC (.str "left"))) (dC (.int 0)))) (dSeq (dSet 6 (dOp modD (dGetK (dVar 0) (dC (.str "left"))) (dVar 1)))
  (dSeq (dPutK (dOp fdivD (dGetK (dVar 0) (dC (.str "left"))) (dVar 1)) (dVar 0) (dC (.str "left")))
  (dRet (dVar 6)))) dNext)
  tb__law_draw_c3)))
theorem l__law_draw : ∀ ds R E M, g__law_draw ds R E M → ds.length = 2 := by
  rintro ds R E M ⟨_, _, _, rfl, -⟩; rfl
theorem u__law_draw {a : Addr} {n : Int} {b : Nat} {R : PD} {E : Ex → MS → Prop} {M : MS} (hn : 0 < n ∧ n ≤ 1000000) (hf : Feed M a (b + 1)) (k : ∀ r o, 0 ≤ r → r < n → FdO o b → R (.int r) (um M a o)) : g__law_draw [.ref a, .int n] R E M := ⟨_, _, _, rfl, hn, hf, k⟩
theorem draw_c8 {a : Addr} {n c t : Int} {b : Nat} {R : PD} {E : Ex → MS → Prop} {M : MS} {o : MO} {e3 e5 e6 : Option D} (hn : 0 < n ∧ n ≤ 1000000) (ht : 0 ≤ t ∧ t ≤ 100000000) (f : FdO o b) (k : ∀ r o, 0 ≤ r → r < n → FdO o b → R (.int r) (um M a o)) :
    tb__law_draw_c8 (ends R E) [some (.ref a), some (.int n), some (.int t), e3, some (.int c), e5, e6] (um M a o) := by
  unfold tb__law_draw_c8
  walk_at "dn"
  have h1 := fmod_nn (i := c) (n := 2147483629) (by decide)
  have h2 := fmod_nn (i := (Int.fmod c 2147483629 + 7919 * t + 1) ^ Int.toNat 5) (n := 2147483647) (by decide)
  generalize ((Int.fmod c 2147483629 + 7919 * t + 1) ^ Int.toNat 5).fmod 2147483647 = m at h2 ⊢
  exact ⟨by decide, cms (by decide) (by omega), ⟨by decide, by decide, by omega⟩, by decide, cms (by decide) (by omega), ⟨by decide, by decide, by omega⟩, by decide, cds (by decide) (by decide), by omega, Rw.of (k _ _ (fmod_nn hn.1).1 (fmod_nn hn.1).2 f)⟩
theorem draw_c7 {a : Addr} {n c i l t : Int} {cs : List Int} {b : Nat} {R : PD} {E : Ex → MS → Prop} {M : MS} {e5 e6 : Option D} (hn : 0 < n ∧ n ≤ 1000000) (hi : 0 ≤ i ∧ 0 ≤ l ∧ 1 ≤ t) (hit : i + 1 ≤ t) (htb : t + b ≤ 100000000) (k : ∀ r o, 0 ≤ r → r < n → FdO o b → R (.int r) (um M a o)) :
    tb__law_draw_c7 (ends R E) [some (.ref a), some (.int n), some (.int t), some (.int i), some (.int c), e5, e6] (um M a (feedK cs (i + 1) l t)) := by
  have fin := draw_c8 (a := a) (n := n) (c := c) (t := t) (b := b) (R := R) (E := E) (M := M) (o := feedK cs (i + 1) l t) (e3 := some (.int i)) (e5 := e5) (e6 := e6) hn (by omega) ⟨cs, i + 1, l, t, rfl, by omega, by omega, by omega⟩ k
  have hn0 : n ≠ 0 := by omega
  unfold tb__law_draw_c7 feedK
  unfold feedK at fin
  generalize tb__law_draw_c8 = tc at fin ⊢
  walk_at "dn"
  refine ⟨⟨by decide, by decide, by decide⟩, ?_⟩
  by_cases h1 : 10 ^ Int.toNat 18 ≤ c
  · simp only [h1, decide_true, if_true]
    try walk_at "dn"
    refine q_getS um_same fk_cells ?_
    try walk_at "dn"
    rw [List.length_map]
    by_cases h2 : i < cs.length
    · simp only [h2, decide_true, if_true]
      try walk_at "dn"
      have h3 : (10 : Int) ^ Int.toNat 18 = 1000000000000000000 := by decide
      have hc : 0 ≤ c.fdiv n := Int.fdiv_nonneg (by omega) (by omega)
      refine ⟨cds hn0 (by omega), ?_⟩
      refine q_putS um_same (show 4 < sizeLine from slt (by decide)) pk_left ?_
      try walk_at "dn"
      exact ⟨hn0, Rw.of (k _ _ (fmod_nn hn.1).1 (fmod_nn hn.1).2 ⟨cs, i + 1, _, t, rfl, ⟨by omega, hc, by omega⟩, by omega, by omega⟩)⟩
    · simp only [h2, decide_false, Bool.false_eq_true, if_false]
      try walk_at "dn"
      exact fin
  · simp only [h1, decide_false, Bool.false_eq_true, if_false]
    try walk_at "dn"
    exact fin
theorem draw_c3 {a : Addr} {n i l t : Int} {cs : List Int} {b : Nat} {R : PD} {E : Ex → MS → Prop} {M : MS} {e3 e4 e5 e6 : Option D} (hn : 0 < n ∧ n ≤ 1000000) (hi : 0 ≤ i ∧ 0 ≤ l ∧ 1 ≤ t) (hit : i + 1 ≤ t) (htb : t + b ≤ 100000000) (k : ∀ r o, 0 ≤ r → r < n → FdO o b → R (.int r) (um M a o)) :
    tb__law_draw_c3 (ends R E) [some (.ref a), some (.int n), some (.int t), e3, e4, e5, e6] (um M a (feedK cs i l t)) := by
  have fin := fun c => draw_c7 (a := a) (n := n) (c := c) (i := i) (l := l) (t := t) (cs := cs) (b := b) (R := R) (E := E) (M := M) (e5 := e5) (e6 := e6) hn hi hit htb k
  unfold tb__law_draw_c3 feedK
  unfold feedK at fin
  generalize tb__law_draw_c7 = tc at fin ⊢
  walk_at "dn"
  refine q_getS um_same fk_at ?_
  try walk_at "dn"
  refine q_putS um_same (show 4 < sizeLine from slt (by decide)) pk_at ?_
  try walk_at "dn"
  refine q_getS um_same fk_cells ?_
  try walk_at "dn"
  refine ⟨by decide, q_intsNil ?_⟩
  cases cs with
  | nil =>
    try walk_at "dn"
    exact fin 0
  | cons x xs =>
    try walk_at "dn"
    refine q_getS um_same fk_cells ?_
    try walk_at "dn"
    refine q_getS um_same fk_cells ?_
    try walk_at "dn"
    rw [List.length_map]
    have h2 := fmod_nn (i := i) (n := (((x :: xs).length : Nat) : Int)) (by rw [List.length_cons]; omega)
    refine ⟨by rw [List.length_cons]; omega, ?_⟩
    refine it_in h2.1 (by rw [List.length_map]; exact h2.2) fun d hd => ?_
    obtain ⟨c, _, rfl⟩ := List.mem_map.mp hd
    exact fin c
theorem h__law_draw : Hg g__law_draw tb__law_draw n__law_draw := by
  rintro ds R E M ⟨a, n, b, rfl, hn, hf, k⟩
  unfold tb__law_draw
  obtain ⟨o, ea, cs, i, l, t, rfl, hi, hit, htb⟩ := hf
  have hn0 : n ≠ 0 := by omega
  have fin := draw_c3 (a := a) (n := n) (i := i) (l := l) (t := t + 1) (cs := cs) (b := b) (R := R) (E := E) (M := M) (e3 := none) (e4 := none) (e5 := none) (e6 := none) hn (by omega) (by omega) (by omega) k
  unfold feedK at ea fin
  generalize tb__law_draw_c3 = tc at fin ⊢
  walk_at "dn"
  refine q_getS ea fk_turn ?_
  try walk_at "dn"
  refine q_putS ea (show 4 < sizeLine from slt (by decide)) pk_turn ?_
  try walk_at "dn"
  refine q_getS um_same fk_left ?_
  try walk_at "dn"
  by_cases h : 0 < l
  · simp only [h, decide_true, if_true]
    try walk_at "dn"
    refine q_getS um_same fk_left ?_
    try walk_at "dn"
    refine ⟨hn0, ?_⟩
    refine q_getS um_same fk_left ?_
    try walk_at "dn"
    have hq : 0 ≤ l.fdiv n := Int.fdiv_nonneg (by omega) (by omega)
    refine ⟨cds hn0 (by omega), ?_⟩
    refine q_putS um_same (show 4 < sizeLine from slt (by decide)) pk_left ?_
    try walk_at "dn"
    exact Rw.of (k _ _ (fmod_nn hn.1).1 (fmod_nn hn.1).2 ⟨cs, i, _, t + 1, rfl, ⟨by omega, hq, by omega⟩, by omega, by omega⟩)
  · simp only [h, decide_false, Bool.false_eq_true, if_false]
    try walk_at "dn"
    exact fin

/-! points and sides by whole numbers (no program here) -/
def PB (m : Int) (p : Pt) : Prop := (-m ≤ p.1 ∧ p.1 ≤ m) ∧ -m ≤ p.2 ∧ p.2 ≤ m
def far (u v : Pt) : Int := u.1 * v.2 - u.2 * v.1
def stp (a b : Pt) : Pt := (b.1 - a.1, b.2 - a.2)
theorem PB.mono {m n : Int} {p : Pt} (h : PB m p) (k : m ≤ n) : PB n p := ⟨⟨by have := h.1; omega, by have := h.1; omega⟩, by have := h.2; omega, by have := h.2; omega⟩
theorem PB.stp {m : Int} {a b : Pt} (h : PB m a) (k : PB m b) : PB (2 * m) (stp a b) := by
  obtain ⟨⟨h1, h2⟩, h3, h4⟩ := h
  obtain ⟨⟨k1, k2⟩, k3, k4⟩ := k
  exact ⟨⟨by show _ ≤ b.1 - a.1; omega, by show b.1 - a.1 ≤ _; omega⟩, by show _ ≤ b.2 - a.2; omega, by show b.2 - a.2 ≤ _; omega⟩
theorem mul_abs {a b A B : Int} (ha : -A ≤ a ∧ a ≤ A) (hb : -B ≤ b ∧ b ≤ B) : -(A * B) ≤ a * b ∧ a * b ≤ A * B := by
  have h : (a * b).natAbs ≤ (A * B).natAbs := by
    rw [Int.natAbs_mul, Int.natAbs_mul]
    exact Nat.mul_le_mul (by omega) (by omega)
  have h2 : 0 ≤ A * B := Int.mul_nonneg (by omega) (by omega)
  omega
theorem far_le {m n : Int} {u v : Pt} (hu : PB m u) (hv : PB n v) : -(2 * (m * n)) ≤ far u v ∧ far u v ≤ 2 * (m * n) := by
  have h1 := mul_abs hu.1 hv.2
  have h2 := mul_abs hu.2 hv.1
  unfold far
  omega
theorem far_4k {u v : Pt} (hu : PB 4000 u) (hv : PB 4000 v) : -32000000 ≤ far u v ∧ far u v ≤ 32000000 := by
  have := far_le hu hv
  omega
def min2 (a b : Pt) : Pt := if ltP b a then b else a
def max2 (a b : Pt) : Pt := if ltP a b then b else a
theorem PB.min2 {m : Int} {a b : Pt} (h : PB m a) (k : PB m b) : PB m (min2 a b) := by unfold DL.min2; split <;> assumption
theorem PB.max2 {m : Int} {a b : Pt} (h : PB m a) (k : PB m b) : PB m (max2 a b) := by unfold DL.max2; split <;> assumption
def on1 (a b p : Pt) : Prop := far (stp a b) (stp a p) = 0 ∧ ((if b.1 < a.1 then b.1 else a.1) ≤ p.1 ∧ p.1 ≤ (if b.1 > a.1 then b.1 else a.1)) ∧ (if b.2 < a.2 then b.2 else a.2) ≤ p.2 ∧ p.2 ≤ (if b.2 > a.2 then b.2 else a.2)
instance (a b p : Pt) : Decidable (on1 a b p) := by unfold on1; infer_instance
theorem far_rev (a b p : Pt) : far (stp b a) (stp b p) = -far (stp a b) (stp a p) := by
  unfold far stp
  simp only
  grind
theorem on1_rev {a b p : Pt} : on1 b a p ↔ on1 a b p := by
  unfold on1
  rw [far_rev]
  omega
theorem far_self (u : Pt) : far u u = 0 := by unfold far; grind
/-- a point's place in the order of the points -/
def cd (p : Pt) : Int := p.1 * 10000 + p.2
theorem ltP_cd {p q : Pt} (hp : PB 2000 p) (hq : PB 2000 q) : ltP p q ↔ cd p < cd q := by
  obtain ⟨⟨a1, a2⟩, a3, a4⟩ := hp
  obtain ⟨⟨b1, b2⟩, b3, b4⟩ := hq
  unfold ltP cd
  omega
theorem cd_inj {p q : Pt} (hp : PB 2000 p) (hq : PB 2000 q) (h : cd p = cd q) : p = q := by
  obtain ⟨⟨a1, a2⟩, a3, a4⟩ := hp
  obtain ⟨⟨b1, b2⟩, b3, b4⟩ := hq
  unfold cd at h
  exact Prod.ext (by omega) (by omega)
theorem cd_min {p q : Pt} (hp : PB 2000 p) (hq : PB 2000 q) : cd (min2 p q) = if cd q < cd p then cd q else cd p := by
  unfold min2
  by_cases h : ltP q p
  · rw [if_pos h, if_pos ((ltP_cd hq hp).mp h)]
  · rw [if_neg h, if_neg (fun z => h ((ltP_cd hq hp).mpr z))]
theorem cd_max {p q : Pt} (hp : PB 2000 p) (hq : PB 2000 q) : cd (max2 p q) = if cd p < cd q then cd q else cd p := by
  unfold max2
  by_cases h : ltP p q
  · rw [if_pos h, if_pos ((ltP_cd hp hq).mp h)]
  · rw [if_neg h, if_neg (fun z => h ((ltP_cd hp hq).mpr z))]
/-- numbers in proportion -/
theorem pro1 {W q B v : Int} (hW : 0 < W) (e : W * q = B * v) (h0 : 0 ≤ B) (h1 : B ≤ W) : (0 ≤ v → 0 ≤ q ∧ q ≤ v) ∧ (v ≤ 0 → v ≤ q ∧ q ≤ 0) := by
  constructor
  · intro hv
    have h2 : 0 ≤ B * v := Int.mul_nonneg h0 hv
    have h3 : B * v ≤ W * v := Int.mul_le_mul_of_nonneg_right h1 hv
    constructor
    · exact Int.le_of_mul_le_mul_left (by rw [e]; omega) hW
    · exact Int.le_of_mul_le_mul_left (by rw [e]; exact h3) hW
  · intro hv
    have h2 : B * v ≤ 0 := Int.mul_nonpos_of_nonneg_of_nonpos h0 hv
    have h3 : W * v ≤ B * v := Int.mul_le_mul_of_nonpos_right h1 hv
    constructor
    · exact Int.le_of_mul_le_mul_left (by rw [e]; exact h3) hW
    · exact Int.le_of_mul_le_mul_left (by rw [e]; omega) hW
theorem pro2 {W q B v : Int} (hW : 0 < W) (e : W * q = B * v) (hv : v ≠ 0) (h : (0 ≤ q ∧ q ≤ v) ∨ (v ≤ q ∧ q ≤ 0)) : 0 ≤ B ∧ B ≤ W := by
  rcases h with ⟨h1, h2⟩ | ⟨h1, h2⟩
  · have hv' : 0 < v := by omega
    have h3 : 0 ≤ W * q := Int.mul_nonneg (by omega) h1
    have h4 : W * q ≤ W * v := Int.mul_le_mul_of_nonneg_left h2 (by omega)
    constructor
    · exact Int.le_of_mul_le_mul_right (by rw [← e]; omega) hv'
    · exact Int.le_of_mul_le_mul_right (by rw [← e]; exact h4) hv'
  · have hv' : 0 < -v := by omega
    have h3 : W * q ≤ 0 := Int.mul_nonpos_of_nonneg_of_nonpos (by omega) h2
    have h4 : W * v ≤ W * q := Int.mul_le_mul_of_nonneg_left h1 (by omega)
    have e3 : B * (-v) = -(W * q) := by rw [e, Int.mul_neg]
    constructor
    · refine Int.le_of_mul_le_mul_right ?_ hv'
      rw [e3, Int.zero_mul]; omega
    · refine Int.le_of_mul_le_mul_right ?_ hv'
      rw [e3, Int.mul_neg]; omega
theorem btw_iff {a b p : Int} : ((if b < a then b else a) ≤ p ∧ p ≤ (if b > a then b else a)) ↔ (0 ≤ p - a ∧ p - a ≤ b - a) ∨ (b - a ≤ p - a ∧ p - a ≤ 0) := by
  split <;> split <;> omega
/-- a point of the line is on the side just where its part of the way is from 0 to 1 -/
theorem on_par {c d p : Pt} {W B : Int} (hW : 0 < W) (hv : stp c d ≠ (0, 0)) (e1 : W * (p.1 - c.1) = B * (d.1 - c.1)) (e2 : W * (p.2 - c.2) = B * (d.2 - c.2)) (hf : far (stp c d) (stp c p) = 0) : on1 c d p ↔ 0 ≤ B ∧ B ≤ W := by
  unfold on1
  rw [btw_iff, btw_iff]
  constructor
  · rintro ⟨_, h1, h2⟩
    by_cases z : d.1 - c.1 = 0
    · refine pro2 hW e2 (fun z2 => hv ?_) h2
      exact Prod.ext z z2
    · exact pro2 hW e1 z h1
  · rintro ⟨h0, h1⟩
    refine ⟨hf, ?_, ?_⟩
    · obtain ⟨x, y⟩ := pro1 hW e1 h0 h1
      rcases Int.le_total 0 (d.1 - c.1) with z | z
      · exact .inl (x z)
      · exact .inr (y z)
    · obtain ⟨x, y⟩ := pro1 hW e2 h0 h1
      rcases Int.le_total 0 (d.2 - c.2) with z | z
      · exact .inl (x z)
      · exact .inr (y z)
theorem far_neg (u a c : Pt) : far u (stp c a) = -far u (stp a c) := by unfold far stp; simp only; grind
theorem far_sub (u a b c : Pt) : far u (stp c b) = far u (stp a b) - far u (stp a c) := by unfold far stp; simp only; grind
theorem far_comm (u v : Pt) : far v u = -far u v := by unfold far; grind
theorem on1_far {a b p : Pt} (h : on1 a b p) : far (stp a b) (stp a p) = 0 := h.1
theorem lexon0 {a b p : Pt} (ha : PB 2000 a) (hb : PB 2000 b) (hp : PB 2000 p) (h1 : a.1 ≤ b.1) (hf : far (stp a b) (stp a p) = 0) : on1 a b p ↔ cd (min2 a b) ≤ cd p ∧ cd p ≤ cd (max2 a b) := by
  rw [cd_min ha hb, cd_max ha hb]
  obtain ⟨⟨a1, a2⟩, a3, a4⟩ := ha
  obtain ⟨⟨b1, b2⟩, b3, b4⟩ := hb
  obtain ⟨⟨p1, p2⟩, p3, p4⟩ := hp
  have hf' : (b.1 - a.1) * (p.2 - a.2) = (b.2 - a.2) * (p.1 - a.1) := by have : (b.1 - a.1) * (p.2 - a.2) - (b.2 - a.2) * (p.1 - a.1) = 0 := hf; omega
  by_cases h0 : b.1 = a.1
  · have h2 : (b.2 - a.2) * (p.1 - a.1) = 0 := by rw [← hf', h0, Int.sub_self, Int.zero_mul]
    have h3 : b.2 = a.2 ∨ p.1 = a.1 := by
      rcases Int.mul_eq_zero.mp h2 with z | z
      · left; omega
      · right; omega
    unfold on1
    rw [btw_iff, btw_iff]
    simp only [hf, true_and]
    unfold cd
    split <;> split <;> omega
  · have hW : 0 < b.1 - a.1 := by omega
    rw [on_par (c := a) (d := b) (p := p) (W := b.1 - a.1) (B := p.1 - a.1) hW (fun z => by have := congrArg Prod.fst z; have e : b.1 - a.1 = 0 := this; omega) (Int.mul_comm _ _) (by rw [hf', Int.mul_comm]) hf]
    have q0 : p.1 = a.1 → p.2 = a.2 := fun z => by
      have : (b.1 - a.1) * (p.2 - a.2) = 0 := by rw [hf', z, Int.sub_self, Int.mul_zero]
      rcases Int.mul_eq_zero.mp this with z | z <;> omega
    have q1 : p.1 = b.1 → p.2 = b.2 := fun z => by
      have : (b.1 - a.1) * (p.2 - a.2) = (b.1 - a.1) * (b.2 - a.2) := by rw [hf', z, Int.mul_comm]
      have := Int.eq_of_mul_eq_mul_left (by omega) this
      omega
    unfold cd
    split <;> split <;> omega
theorem min2_comm {a b : Pt} (ha : PB 2000 a) (hb : PB 2000 b) : min2 a b = min2 b a := cd_inj (ha.min2 hb) (hb.min2 ha) (by rw [cd_min ha hb, cd_min hb ha]; split <;> split <;> omega)
theorem max2_comm {a b : Pt} (ha : PB 2000 a) (hb : PB 2000 b) : max2 a b = max2 b a := cd_inj (ha.max2 hb) (hb.max2 ha) (by rw [cd_max ha hb, cd_max hb ha]; split <;> split <;> omega)
theorem lexon {a b p : Pt} (ha : PB 2000 a) (hb : PB 2000 b) (hp : PB 2000 p) (hf : far (stp a b) (stp a p) = 0) : on1 a b p ↔ cd (min2 a b) ≤ cd p ∧ cd p ≤ cd (max2 a b) := by
  rcases Int.le_total a.1 b.1 with h | h
  · exact lexon0 ha hb hp h hf
  · rw [min2_comm ha hb, max2_comm ha hb, ← lexon0 hb ha hp h (by rw [far_rev, hf]; rfl), on1_rev]
theorem min2_or (a b : Pt) : min2 a b = a ∨ min2 a b = b := by unfold min2; split <;> simp
theorem max2_or (a b : Pt) : max2 a b = a ∨ max2 a b = b := by unfold max2; split <;> simp
theorem on1_pt {c p : Pt} (h : on1 c c p) : p = c := by
  obtain ⟨_, h1, h2⟩ := h
  rw [btw_iff] at h1 h2
  exact Prod.ext (by omega) (by omega)
theorem stp_zero {a b : Pt} (h : stp a b = (0, 0)) : b = a := by
  have h1 : b.1 - a.1 = 0 := congrArg Prod.fst h
  have h2 : b.2 - a.2 = 0 := congrArg Prod.snd h
  exact Prod.ext (by omega) (by omega)
theorem far_tri (u v w : Pt) : v.1 * far u w = u.1 * far v w + w.1 * far u v ∧ v.2 * far u w = u.2 * far v w + w.2 * far u v := by unfold far; constructor <;> grind
theorem par_zero {u v w : Pt} (h1 : far u v = 0) (h2 : far v w = 0) (h3 : far u w ≠ 0) : v = (0, 0) := by
  obtain ⟨e1, e2⟩ := far_tri u v w
  rw [h1, h2, Int.mul_zero, Int.mul_zero, Int.add_zero] at e1 e2
  refine Prod.ext ?_ ?_
  · exact (Int.mul_eq_zero.mp e1).elim id fun h => absurd h h3
  · exact (Int.mul_eq_zero.mp e2).elim id fun h => absurd h h3
theorem far_zero_r {u a : Pt} : far u (stp a a) = 0 := by unfold far stp; simp only; grind

/-! hulls: the corners along (no program here) -/
def hd (a b c : Pt) : Int := far (stp a b) (stp b c)
theorem hd_eq (a b p : Pt) : hd a b p = far (stp a b) (stp a p) := by unfold hd far stp; simp only; grind
theorem hd_swap (a b p : Pt) : hd a p b = -hd a b p := by rw [hd_eq, hd_eq, far_comm]
theorem hd_self (a b : Pt) : hd a b b = 0 := by unfold hd; exact far_zero_r
theorem hd_at (a b : Pt) : hd a b a = 0 := by rw [hd_eq]; exact far_zero_r
/-- a step forwards, in the points' order (s = 1) or against it (s = -1) -/
def Lp (s : Int) (u : Pt) : Prop := 0 < s * u.1 ∨ (u.1 = 0 ∧ 0 < s * u.2)
theorem far_tr {u v w : Pt} (hu : Lp 1 u) (hv : Lp 1 v) (hw : Lp 1 w) (h1 : 0 ≤ far u v) (h2 : 0 ≤ far v w) : 0 ≤ far u w ∧ ((0 < far u v ∨ 0 < far v w) → 0 < far u w) := by
  unfold Lp at hu hv hw
  simp only [Int.one_mul] at hu hv hw
  have nu : 0 ≤ u.1 := by omega
  have nw : 0 ≤ w.1 := by omega
  rcases hv with hv | ⟨v1, v2⟩
  · obtain ⟨e, _⟩ := far_tri u v w
    have p1 : 0 ≤ u.1 * far v w := Int.mul_nonneg nu h2
    have p2 : 0 ≤ w.1 * far u v := Int.mul_nonneg nw h1
    have g0 : 0 ≤ far u w := Int.le_of_mul_le_mul_left (by rw [e]; omega) hv
    refine ⟨g0, fun h => ?_⟩
    rcases h with h | h
    · rcases hw with hw | ⟨w1, w2⟩
      · have : 0 < w.1 * far u v := Int.mul_pos hw h
        exact Int.lt_of_mul_lt_mul_left (a := v.1) (by rw [e]; omega) (by omega)
      · have hu1 : 0 < u.1 := by
          rcases hu with hu | ⟨u1, u2⟩
          · exact hu
          · exfalso
            have : far u v = -(u.2 * v.1) := by unfold far; rw [u1]; omega
            have : 0 < u.2 * v.1 := Int.mul_pos u2 hv
            omega
        have : far u w = u.1 * w.2 := by unfold far; rw [w1]; omega
        rw [this]
        exact Int.mul_pos hu1 w2
    · rcases hu with hu | ⟨u1, u2⟩
      · have : 0 < u.1 * far v w := Int.mul_pos hu h
        exact Int.lt_of_mul_lt_mul_left (a := v.1) (by rw [e]; omega) (by omega)
      · exfalso
        have : far u v = -(u.2 * v.1) := by unfold far; rw [u1]; omega
        have : 0 < u.2 * v.1 := Int.mul_pos u2 hv
        omega
  · have e1 : far u v = u.1 * v.2 := by unfold far; rw [v1]; omega
    have e2 : far v w = -(v.2 * w.1) := by unfold far; rw [v1]; omega
    have w1 : w.1 = 0 := by
      rcases Int.lt_or_eq_of_le nw with z | z
      · have : 0 < v.2 * w.1 := Int.mul_pos v2 z
        omega
      · exact z.symm
    have w2 : 0 < w.2 := by omega
    have e3 : far u w = u.1 * w.2 := by unfold far; rw [w1]; omega
    rw [e1, e2, e3, w1]
    refine ⟨Int.mul_nonneg nu (by omega), fun h => ?_⟩
    rcases h with h | h
    · have : 0 < u.1 := by
        rcases Int.lt_or_eq_of_le nu with z | z
        · exact z
        · rw [← z, Int.zero_mul] at h; omega
      exact Int.mul_pos this w2
    · omega
theorem far_sc (s : Int) (hs : s = 1 ∨ s = -1) (u v : Pt) : far (s * u.1, s * u.2) (s * v.1, s * v.2) = far u v := by
  rcases hs with rfl | rfl
  · simp only [Int.one_mul]
  · unfold far; simp only; grind
theorem far_trs {s : Int} (hs : s = 1 ∨ s = -1) {u v w : Pt} (hu : Lp s u) (hv : Lp s v) (hw : Lp s w) (h1 : 0 ≤ far u v) (h2 : 0 ≤ far v w) : 0 ≤ far u w ∧ ((0 < far u v ∨ 0 < far v w) → 0 < far u w) := by
  have key : ∀ {u : Pt}, Lp s u → Lp 1 (s * u.1, s * u.2) := by
    intro u h
    unfold Lp at h ⊢
    simp only [Int.one_mul]
    rcases hs with rfl | rfl <;> omega
  have := far_tr (key hu) (key hv) (key hw) (by rw [far_sc s hs]; exact h1) (by rw [far_sc s hs]; exact h2)
  rw [far_sc s hs, far_sc s hs, far_sc s hs] at this
  exact this
theorem lp_of {s : Int} (hs : s = 1 ∨ s = -1) {a b : Pt} (ha : PB 2000 a) (hb : PB 2000 b) (h : s * cd a < s * cd b) : Lp s (stp a b) := by
  obtain ⟨⟨a1, a2⟩, a3, a4⟩ := ha
  obtain ⟨⟨b1, b2⟩, b3, b4⟩ := hb
  unfold Lp stp
  unfold cd at h
  simp only
  rcases hs with rfl | rfl <;> omega
def popTo : List Pt → Pt → List Pt
  | t1 :: t2 :: r, q => if 0 ≤ hd t2 t1 q then popTo (t2 :: r) q else t1 :: t2 :: r
  | [t], _ => [t]
  | [], _ => []
def Edg (s : Int) (done : List Pt) (a b : Pt) : Prop := s * cd a < s * cd b ∧ ∀ p, p ∈ done → hd a b p ≤ 0 ∧ (hd a b p = 0 → s * cd a ≤ s * cd p ∧ s * cd p ≤ s * cd b)
def Chn (s : Int) (done : List Pt) : List Pt → Prop
  | t1 :: t2 :: r => Edg s done t2 t1 ∧ Chn s done (t2 :: r)
  | _ => True
def Low (s : Int) (done : List Pt) : List Pt → Prop
  | t1 :: t2 :: r => Low s done (t2 :: r)
  | [t] => ∀ p, p ∈ done → s * cd t ≤ s * cd p
  | [] => True
section
variable {s : Int} {done : List Pt} {q : Pt}
theorem hd_tri (a b p q : Pt) : hd a b q = far (stp a b) (stp a q) := hd_eq a b q
/-- the corner behind a popped one sees all that comes later below the new step -/
theorem see (hs : s = 1 ∨ s = -1) (hok : ∀ p, p ∈ done → PB 2000 p) (hq : PB 2000 q) (hlt : ∀ p, p ∈ done → s * cd p < s * cd q) {a t : Pt} (ha : a ∈ done) (ht : t ∈ done) (e : Edg s done a t) (hp : 0 ≤ hd a t q) :
    ∀ p, p ∈ done → s * cd a ≤ s * cd p → hd a q p ≤ 0 := by
  intro p hpd hap
  rcases Int.lt_or_eq_of_le hap with h | h
  · have l1 := lp_of hs (hok a ha) (hok p hpd) h
    have l2 := lp_of hs (hok a ha) (hok t ht) e.1
    have l3 := lp_of hs (hok a ha) hq (hlt a ha)
    have h1 : 0 ≤ far (stp a p) (stp a t) := by have := (e.2 p hpd).1; rw [hd_eq] at this; rw [far_comm]; omega
    have h2 : 0 ≤ far (stp a t) (stp a q) := by rw [hd_eq] at hp; exact hp
    have := (far_trs hs l1 l2 l3 h1 h2).1
    rw [hd_eq, far_comm]
    omega
  · have : p = a := (cd_inj (hok a ha) (hok p hpd) (by rcases hs with rfl | rfl <;> omega)).symm
    rw [this, hd_at]
    exact Int.le_refl 0
theorem pop_ok (hs : s = 1 ∨ s = -1) (hok : ∀ p, p ∈ done → PB 2000 p) (hq : PB 2000 q) (hlt : ∀ p, p ∈ done → s * cd p < s * cd q) : ∀ (r : List Pt) (t : Pt), (∀ x, x ∈ t :: r → x ∈ done) → Chn s done (t :: r) → Low s done (t :: r) →
    (∀ p, p ∈ done → s * cd t ≤ s * cd p → hd t q p ≤ 0) → ∃ s1 r', popTo (t :: r) q = s1 :: r' ∧ (∀ x, x ∈ s1 :: r' → x ∈ done) ∧ Chn s done (s1 :: r') ∧ Low s done (s1 :: r') ∧ (∀ p, p ∈ done → s * cd s1 ≤ s * cd p → hd s1 q p ≤ 0) ∧ ∀ s2 r2, r' = s2 :: r2 → hd s2 s1 q < 0
  | [], t, h1, h2, h3, h4 => ⟨t, [], rfl, h1, h2, h3, h4, fun _ _ z => nomatch z⟩
  | t2 :: r, t, h1, h2, h3, h4 => by
    unfold popTo
    by_cases c : 0 ≤ hd t2 t q
    · rw [if_pos c]
      exact pop_ok hs hok hq hlt r t2 (fun x hx => h1 x (.tail _ hx)) h2.2 h3 (see hs hok hq hlt (h1 _ (.tail _ (.head _))) (h1 _ (.head _)) h2.1 c)
    · rw [if_neg c]
      exact ⟨t, t2 :: r, rfl, h1, h2, h3, h4, fun s2 r2 z => by cases z; omega⟩
theorem chn_ext (hs : s = 1 ∨ s = -1) (hok : ∀ p, p ∈ done → PB 2000 p) (hq : PB 2000 q) (hlt : ∀ p, p ∈ done → s * cd p < s * cd q) : ∀ (r : List Pt) (t : Pt), (∀ x, x ∈ t :: r → x ∈ done) → Chn s done (t :: r) → (∀ s2 r2, r = s2 :: r2 → hd s2 t q < 0) → Chn s (done ++ [q]) (t :: r)
  | [], _, _, _, _ => True.intro
  | t2 :: r, t, h1, h2, h3 => by
    have hn := h3 t2 r rfl
    refine ⟨⟨h2.1.1, fun p hp => ?_⟩, chn_ext hs hok hq hlt r t2 (fun x hx => h1 x (.tail _ hx)) h2.2 fun t3 r3 e => ?_⟩
    · rcases List.mem_append.mp hp with hp | hp
      · exact h2.1.2 p hp
      · rw [List.mem_singleton.mp hp]
        exact ⟨by omega, fun z => by omega⟩
    · subst e
      have m1 := h1 t (.head _)
      have m2 := h1 t2 (.tail _ (.head _))
      have m3 := h1 t3 (.tail _ (.tail _ (.head _)))
      have e3 := h2.2.1
      have l1 := lp_of hs (hok _ m3) (hok _ m2) e3.1
      have l2 := lp_of hs (hok _ m2) (hok _ m1) h2.1.1
      have l3 := lp_of hs (hok _ m2) hq (hlt _ m2)
      have n1 : hd t3 t2 t < 0 := by
        have := e3.2 t m1
        rcases Int.lt_or_eq_of_le this.1 with z | z
        · exact z
        · have := (this.2 z).2
          have := h2.1.1
          omega
      have k1 : 0 < far (stp t2 t) (stp t3 t2) := by have : far (stp t3 t2) (stp t2 t) < 0 := n1; rw [far_comm]; omega
      have k2 : 0 < far (stp t2 q) (stp t2 t) := by rw [hd_eq] at hn; rw [far_comm]; omega
      have := (far_trs hs l3 l2 l1 (by omega) (by omega)).2 (.inl k2)
      show far (stp t3 t2) (stp t2 q) < 0
      rw [far_comm]
      omega
/-- the new step is an edge -/
theorem edg_new (hs : s = 1 ∨ s = -1) (hok : ∀ p, p ∈ done → PB 2000 p) (hq : PB 2000 q) (hlt : ∀ p, p ∈ done → s * cd p < s * cd q) {t : Pt} {r : List Pt} (h1 : ∀ x, x ∈ t :: r → x ∈ done) (h2 : Chn s done (t :: r)) (h3 : Low s done (t :: r))
    (h4 : ∀ p, p ∈ done → s * cd t ≤ s * cd p → hd t q p ≤ 0) (h5 : ∀ s2 r2, r = s2 :: r2 → hd s2 t q < 0) : Edg s (done ++ [q]) t q := by
  have mt := h1 t (.head _)
  refine ⟨hlt t mt, fun p hp => ?_⟩
  rcases List.mem_append.mp hp with hp | hp
  · by_cases c : s * cd t ≤ s * cd p
    · exact ⟨h4 p hp c, fun _ => ⟨c, by have := hlt p hp; omega⟩⟩
    · cases r with
      | nil => exact absurd (h3 p hp) c
      | cons t2 r =>
        have m2 := h1 t2 (.tail _ (.head _))
        have l1 := lp_of hs (hok _ mt) hq (hlt _ mt)
        have l2 := lp_of hs (hok _ m2) (hok _ mt) h2.1.1
        have l3 := lp_of hs (hok _ hp) (hok _ mt) (by omega)
        have hn : far (stp t2 t) (stp t q) < 0 := h5 t2 r rfl
        have hp1 : far (stp t2 t) (stp t p) ≤ 0 := (h2.1.2 p hp).1
        have k1 : 0 < far (stp t q) (stp t2 t) := by rw [far_comm]; omega
        have k2 : 0 ≤ far (stp t2 t) (stp p t) := by rw [far_neg]; omega
        have k3 := (far_trs hs l1 l2 l3 (by omega) k2).2 (.inl k1)
        have k4 : hd t q p < 0 := by rw [hd_eq, far_neg _ p t]; omega
        exact ⟨by omega, fun z => by omega⟩
  · rw [List.mem_singleton.mp hp, hd_self]
    exact ⟨Int.le_refl 0, fun _ => ⟨by have := hlt t mt; omega, Int.le_refl _⟩⟩
end

/-! hulls: the whole chain; the corners round about *)-/
def chainS (ps : List Pt) : List Pt := ps.foldl (fun st q => q :: popTo st q) []
def Inv1 (s : Int) (done st : List Pt) : Prop := (done = [] ∧ st = []) ∨ ∃ t r, st = t :: r ∧ (∀ x, x ∈ st → x ∈ done) ∧ Chn s done st ∧ Low s done st ∧ ∀ p, p ∈ done → s * cd p ≤ s * cd t
theorem low_ext {s : Int} {done : List Pt} {q : Pt} : ∀ {st : List Pt}, (∀ x, x ∈ st → x ∈ done) → Low s done st → (∀ p, p ∈ done → s * cd p < s * cd q) → Low s (done ++ [q]) st
  | [], _, _, _ => True.intro
  | [t], h1, h2, h3 => fun p hp => by
    rcases List.mem_append.mp hp with hp | hp
    · exact h2 p hp
    · rw [List.mem_singleton.mp hp]
      have := h3 t (h1 t (.head _))
      omega
  | t1 :: t2 :: r, h1, h2, h3 => low_ext (st := t2 :: r) (fun x hx => h1 x (.tail _ hx)) h2 h3
theorem inv_step {s : Int} (hs : s = 1 ∨ s = -1) {done st : List Pt} {q : Pt} (hok : ∀ p, p ∈ done → PB 2000 p) (hq : PB 2000 q) (hlt : ∀ p, p ∈ done → s * cd p < s * cd q) (h : Inv1 s done st) : Inv1 s (done ++ [q]) (q :: popTo st q) := by
  rcases h with ⟨rfl, rfl⟩ | ⟨t, r, rfl, h1, h2, h3, h4⟩
  · refine .inr ⟨q, [], rfl, fun x hx => hx, True.intro, fun p hp => ?_, fun p hp => ?_⟩
    · rw [List.mem_singleton.mp hp]; exact Int.le_refl _
    · rw [List.mem_singleton.mp hp]; exact Int.le_refl _
  · have mt := h1 t (.head _)
    obtain ⟨s1, r', e, k1, k2, k3, k4, k5⟩ := pop_ok hs hok hq hlt r t h1 h2 h3 fun p hp hle => by
      have : p = t := (cd_inj (hok t mt) (hok p hp) (by have := h4 p hp; rcases hs with rfl | rfl <;> omega)).symm
      rw [this, hd_at]
      exact Int.le_refl 0
    rw [e]
    refine .inr ⟨q, s1 :: r', rfl, fun x hx => ?_, ⟨edg_new hs hok hq hlt k1 k2 k3 k4 k5, chn_ext hs hok hq hlt r' s1 k1 k2 k5⟩, (show Low s (done ++ [q]) (s1 :: r') from low_ext k1 k3 hlt), fun p hp => ?_⟩
    · rcases List.mem_cons.mp hx with rfl | hx
      · exact List.mem_append_right _ (.head _)
      · exact List.mem_append_left _ (k1 x hx)
    · rcases List.mem_append.mp hp with hp | hp
      · have := hlt p hp; omega
      · rw [List.mem_singleton.mp hp]; exact Int.le_refl _
theorem inv_all {s : Int} (hs : s = 1 ∨ s = -1) : ∀ (rest done st : List Pt), (∀ p, p ∈ done ++ rest → PB 2000 p) → (done ++ rest).Pairwise (fun a b => s * cd a < s * cd b) → Inv1 s done st → Inv1 s (done ++ rest) (rest.foldl (fun st q => q :: popTo st q) st)
  | [], done, st, _, _, h => by rw [List.append_nil]; exact h
  | q :: rest, done, st, hok, hpw, h => by
    have e : done ++ q :: rest = (done ++ [q]) ++ rest := by rw [List.append_assoc]; rfl
    have hlt : ∀ p, p ∈ done → s * cd p < s * cd q := fun p hp => (List.pairwise_append.mp hpw).2.2 p hp q (.head _)
    rw [e] at hok hpw ⊢
    exact inv_all hs rest (done ++ [q]) (q :: popTo st q) hok hpw (inv_step hs (fun p hp => hok p (List.mem_append_left _ (List.mem_append_left _ hp))) (hok q (List.mem_append_left _ (List.mem_append_right _ (.head _)))) hlt h)
theorem chain_ok {s : Int} (hs : s = 1 ∨ s = -1) {ps : List Pt} (hok : ∀ p, p ∈ ps → PB 2000 p) (hpw : ps.Pairwise fun a b => s * cd a < s * cd b) : Inv1 s ps (chainS ps) := by
  have := inv_all hs ps [] [] (by simpa using hok) (by simpa using hpw) (.inl ⟨rfl, rfl⟩)
  rw [List.nil_append] at this
  exact this
/-! ways *)-/
def Pth (N : Pt → Pt → Prop) : List Pt → Prop
  | a :: b :: r => N a b ∧ Pth N (b :: r)
  | _ => True
theorem Pth.mono {N N' : Pt → Pt → Prop} : ∀ {l : List Pt}, (∀ a b, a ∈ l → b ∈ l → N a b → N' a b) → Pth N l → Pth N' l
  | [], _, _ => True.intro
  | [_], _, _ => True.intro
  | a :: b :: r, h, k => ⟨h a b (.head _) (.tail _ (.head _)) k.1, Pth.mono (l := b :: r) (fun x y hx hy => h x y (.tail _ hx) (.tail _ hy)) k.2⟩
theorem Pth.join {N : Pt → Pt → Prop} {c : Pt} : ∀ {l m : List Pt}, Pth N (l ++ [c]) → Pth N (c :: m) → Pth N (l ++ c :: m)
  | [], _, _, k => k
  | [a], _, h, k => ⟨h.1, k⟩
  | a :: b :: l, m, h, k => ⟨h.1, Pth.join (l := b :: l) h.2 k⟩
theorem Pth.left {N : Pt → Pt → Prop} : ∀ {l m : List Pt}, Pth N (l ++ m) → Pth N l
  | [], _, _ => True.intro
  | [_], _, _ => True.intro
  | a :: b :: l, m, h => ⟨h.1, Pth.left (l := b :: l) h.2⟩
theorem Pth.right {N : Pt → Pt → Prop} : ∀ {l m : List Pt}, Pth N (l ++ m) → Pth N m
  | [], _, h => h
  | [_], [], _ => True.intro
  | [_], _ :: _, h => h.2
  | _ :: b :: l, m, h => Pth.right (l := b :: l) h.2
theorem chn_pth {s : Int} {done : List Pt} : ∀ {st : List Pt}, Chn s done st → Pth (Edg s done) st.reverse
  | [], _ => True.intro
  | [_], _ => True.intro
  | t1 :: t2 :: r, h => by
    have ih := chn_pth (st := t2 :: r) h.2
    rw [List.reverse_cons, List.reverse_cons, List.append_assoc] at *
    exact ih.join (m := [t1]) ⟨h.1, True.intro⟩
theorem pth_mono {s : Int} {done : List Pt} : ∀ {l : List Pt}, Pth (Edg s done) l → l.Pairwise fun a b => s * cd a < s * cd b
  | [], _ => .nil
  | [_], _ => List.pairwise_singleton _ _
  | a :: b :: r, h => by
    have ih := pth_mono (l := b :: r) h.2
    refine List.pairwise_cons.mpr ⟨fun x hx => ?_, ih⟩
    have h0 := h.1.1
    rcases List.mem_cons.mp hx with rfl | hx
    · exact h0
    · have := (List.pairwise_cons.mp ih).1 x hx
      omega
/-- the next corner, as the law sees it -/
def Nxt (some : List Pt) (a b : Pt) : Prop := b ∈ some ∧ b ≠ a ∧ ∀ p, p ∈ some → hd a b p ≤ 0 ∧ (hd a b p = 0 → on1 a b p)
theorem nxt_one {some : List Pt} {a b c : Pt} (hb : Nxt some a b) (hc : Nxt some a c) : b = c := by
  have h1 := hb.2.2 c hc.1
  have h2 := hc.2.2 b hb.1
  have h3 := hd_swap a b c
  have z1 : hd a b c = 0 := by omega
  have z2 : hd a c b = 0 := by omega
  obtain ⟨_, p1, p2⟩ := h1.2 z1
  obtain ⟨_, q1, q2⟩ := h2.2 z2
  rw [btw_iff] at p1 p2 q1 q2
  exact Prod.ext (by omega) (by omega)
theorem edg_nxt {s : Int} (hs : s = 1 ∨ s = -1) {some : List Pt} {a b : Pt} (hok : ∀ p, p ∈ some → PB 2000 p) (ha : a ∈ some) (hb : b ∈ some) (h : Edg s some a b) : Nxt some a b := by
  refine ⟨hb, fun e => by have := h.1; rw [e] at this; omega, fun p hp => ⟨(h.2 p hp).1, fun z => ?_⟩⟩
  have hz := (h.2 p hp).2 z
  have h0 := h.1
  rw [hd_eq] at z
  rw [lexon (hok a ha) (hok b hb) (hok p hp) z, cd_min (hok a ha) (hok b hb), cd_max (hok a ha) (hok b hb)]
  rcases hs with rfl | rfl
  · split <;> split <;> omega
  · split <;> split <;> omega
def hullV (some : List Pt) : List Pt := if some.length < 2 then some else (chainS some).reverse.dropLast ++ (chainS some.reverse).reverse.dropLast
/-- the way round: from the least corner to itself -/
structure Round (some V : List Pt) (m : Pt) : Prop where
  hd : ∃ r, V = m :: r
  nd : V.Nodup
  sub : ∀ x, x ∈ V → x ∈ some
  low : ∀ p, p ∈ some → cd m ≤ cd p
  way : Pth (Nxt some) (V ++ [m])
theorem low_first {s : Int} {done : List Pt} : ∀ {st : List Pt}, st ≠ [] → Low s done st → ∃ b r0, st.reverse = b :: r0 ∧ b ∈ st ∧ ∀ p, p ∈ done → s * cd b ≤ s * cd p
  | [], h, _ => absurd rfl h
  | [t], _, h => ⟨t, [], rfl, .head _, h⟩
  | t1 :: t2 :: r, _, h => by
    obtain ⟨b, r0, e, hb, hl⟩ := low_first (st := t2 :: r) (by simp) h
    exact ⟨b, r0 ++ [t1], by rw [List.reverse_cons, e]; rfl, .tail _ hb, hl⟩
theorem pth_next {N : Pt → Pt → Prop} {c x : Pt} : ∀ {l : List Pt}, Pth N (l ++ [c]) → x ∈ l → ∃ y, N x y ∧ y ∈ l ++ [c]
  | [a], h, hx => by
    rw [List.mem_singleton.mp hx]
    exact ⟨c, h.1, .tail _ (.head _)⟩
  | a :: b :: l, h, hx => by
    rcases List.mem_cons.mp hx with rfl | hx
    · exact ⟨b, h.1, .tail _ (.head _)⟩
    · obtain ⟨y, h1, h2⟩ := pth_next (l := b :: l) h.2 hx
      exact ⟨y, h1, .tail _ h2⟩
theorem round_hull {some : List Pt} (hok : ∀ p, p ∈ some → PB 2000 p) (hpw : some.Pairwise fun a b => cd a < cd b) (h2 : 2 ≤ some.length) : ∃ m, Round some (hullV some) m := by
  have hp1 : some.Pairwise fun a b => 1 * cd a < 1 * cd b := hpw.imp fun h => by omega
  have hp2 : some.reverse.Pairwise fun a b => -1 * cd a < -1 * cd b := List.pairwise_reverse.mpr (hpw.imp fun h => by omega)
  have hne : some ≠ [] := fun e => by subst e; simp at h2
  have hnr : some.reverse ≠ [] := fun e => hne (List.reverse_eq_nil_iff.mp e)
  have i1 := chain_ok (s := 1) (.inl rfl) hok hp1
  have i2 := chain_ok (s := -1) (.inr rfl) (fun p hp => hok p (List.mem_reverse.mp hp)) hp2
  rcases i1 with ⟨z, _⟩ | ⟨t, r, e1, a1, a2, a3, a4⟩
  · exact absurd z hne
  rcases i2 with ⟨z, _⟩ | ⟨t2, r2, e2, b1, b2, b3, b4⟩
  · exact absurd z hnr
  have eV : hullV some = r.reverse ++ r2.reverse := by
    unfold hullV
    rw [if_neg (by omega), e1, e2, List.reverse_cons, List.reverse_cons, List.dropLast_concat, List.dropLast_concat]
  rw [e1] at a1 a2 a3
  rw [e2] at b1 b2 b3
  have mt : t ∈ some := a1 t (.head _)
  have mt2 : t2 ∈ some := List.mem_reverse.mp (b1 t2 (.head _))
  have tmax : ∀ p, p ∈ some → cd p ≤ cd t := fun p hp => by have := a4 p hp; omega
  have tmin : ∀ p, p ∈ some → cd t2 ≤ cd p := fun p hp => by have := b4 p (List.mem_reverse.mpr hp); omega
  obtain ⟨f1, q1, g1, g2, g3⟩ := low_first (by simp) a3
  obtain ⟨f2, q2, k1, k2, k3⟩ := low_first (by simp) b3
  have ef1 : f1 = t2 := cd_inj (hok _ (a1 _ g2)) (hok _ mt2) (by have := g3 t2 mt2; have := tmin f1 (a1 _ g2); omega)
  have ef2 : f2 = t := cd_inj (hok _ (List.mem_reverse.mp (b1 _ k2))) (hok _ mt) (by have := k3 t (List.mem_reverse.mpr mt); have := tmax f2 (List.mem_reverse.mp (b1 _ k2)); omega)
  subst ef1
  subst ef2
  have hlt : cd f1 < cd f2 := by
    match some, h2, hpw, tmax, tmin with
    | x :: y :: l, _, hpw, tmax, tmin =>
      have h := (List.pairwise_cons.mp hpw).1 y (.head _)
      have := tmin x (.head _)
      have := tmax y (.tail _ (.head _))
      omega
  have hup : Pth (Edg 1 some) (r.reverse ++ [f2]) := by
    have := chn_pth a2
    rwa [List.reverse_cons] at this
  have hdn : Pth (Edg (-1) some.reverse) (r2.reverse ++ [f1]) := by
    have := chn_pth b2
    rwa [List.reverse_cons] at this
  have inU : ∀ x, x ∈ r.reverse ++ [f2] → x ∈ some := fun x hx => a1 x (by
    rcases List.mem_append.mp hx with h | h
    · exact .tail _ (List.mem_reverse.mp h)
    · rw [List.mem_singleton.mp h]; exact .head _)
  have inL : ∀ x, x ∈ r2.reverse ++ [f1] → x ∈ some := fun x hx => List.mem_reverse.mp (b1 x (by
    rcases List.mem_append.mp hx with h | h
    · exact .tail _ (List.mem_reverse.mp h)
    · rw [List.mem_singleton.mp h]; exact .head _))
  have hdn' : Pth (Edg (-1) some) (r2.reverse ++ [f1]) := hdn.mono fun a b _ _ h => ⟨h.1, fun p hp => h.2 p (List.mem_reverse.mpr hp)⟩
  have nU : Pth (Nxt some) (r.reverse ++ [f2]) := hup.mono fun a b ha hb h => edg_nxt (.inl rfl) hok (inU a ha) (inU b hb) h
  have nL : Pth (Nxt some) (r2.reverse ++ [f1]) := hdn'.mono fun a b ha hb h => edg_nxt (.inr rfl) hok (inL a ha) (inL b hb) h
  rw [List.reverse_cons] at g1 k1
  have hr : r ≠ [] := fun e => by
    subst e
    rw [List.reverse_nil, List.nil_append] at g1
    cases g1
    omega
  obtain ⟨x0, l0, er⟩ : ∃ x l, r.reverse = x :: l := by
    cases h : r.reverse with
    | nil => exact absurd (List.reverse_eq_nil_iff.mp h) hr
    | cons x l => exact ⟨x, l, rfl⟩
  have ex0 : x0 = f1 := by
    rw [er] at g1
    exact (List.cons.inj g1).1
  subst ex0
  refine ⟨x0, ⟨l0 ++ r2.reverse, by rw [eV, er]; rfl⟩, ?_, fun x hx => ?_, tmin, ?_⟩
  · rw [eV, List.nodup_append]
    have w1 := (List.pairwise_append.mp (pth_mono hup)).1
    have w2 := (List.pairwise_append.mp (pth_mono hdn')).1
    refine ⟨w1.imp fun h e => by rw [e] at h; omega, w2.imp fun h e => by rw [e] at h; omega, fun a ha b hb e => ?_⟩
    subst e
    obtain ⟨y, n1, hy⟩ := pth_next hup ha
    obtain ⟨z, n2, hz⟩ := pth_next hdn' hb
    have ha' := inU a (List.mem_append_left _ ha)
    have := nxt_one (edg_nxt (.inl rfl) hok ha' (inU y hy) n1) (edg_nxt (.inr rfl) hok ha' (inL z hz) n2)
    have := n1.1
    have := n2.1
    subst y
    omega
  · rw [eV] at hx
    rcases List.mem_append.mp hx with h | h
    · exact inU x (List.mem_append_left _ h)
    · exact inL x (List.mem_append_left _ h)
  · rw [eV, List.append_assoc, k1]
    rw [k1] at nL
    exact nU.join nL
theorem round_one {some V V' : List Pt} {m m' : Pt} (hok : ∀ p, p ∈ some → PB 2000 p) (h : Round some V m) (h' : Round some V' m') : V = V' := by
  obtain ⟨r, rfl⟩ := h.hd
  obtain ⟨r', rfl⟩ := h'.hd
  have hm := h.sub m (.head _)
  have hm' := h'.sub m' (.head _)
  have em : m = m' := cd_inj (hok _ hm) (hok _ hm') (by have := h.low m' hm'; have := h'.low m hm; omega)
  subst em
  have key : ∀ (l l' pre : List Pt) (a : Pt), m ∉ l → m ∉ l' → Pth (Nxt some) (a :: (l ++ [m])) → Pth (Nxt some) (a :: (l' ++ [m])) → l = l' := by
    intro l
    induction l with
    | nil =>
      intro l' pre a _ hn h1 h2
      cases l' with
      | nil => rfl
      | cons b l' =>
        have := nxt_one h1.1 h2.1
        exact absurd (this ▸ .head _) hn
    | cons b l ih =>
      intro l' pre a hn hn' h1 h2
      cases l' with
      | nil =>
        have := nxt_one h2.1 h1.1
        exact absurd (this ▸ .head _) hn
      | cons b' l' =>
        have e := nxt_one h1.1 h2.1
        subst e
        rw [ih l' pre b (fun z => hn (.tail _ z)) (fun z => hn' (.tail _ z)) h1.2 h2.2]
  rw [key r r' [] m (List.nodup_cons.mp h.nd).1 (List.nodup_cons.mp h'.nd).1 h.way h'.way]
/-- the corners' own corners are they -/
theorem Round.own {some V : List Pt} {m : Pt} (h : Round some V m) : Round V V m := by
  refine ⟨h.hd, h.nd, fun _ hx => hx, fun p hp => h.low p (h.sub p hp), ?_⟩
  have hm : m ∈ V := by obtain ⟨r, e⟩ := h.hd; rw [e]; exact .head _
  have inV : ∀ x, x ∈ V ++ [m] → x ∈ V := fun x hx => (List.mem_append.mp hx).elim id fun z => by rw [List.mem_singleton.mp z]; exact hm
  exact h.way.mono fun a b _ hb n => ⟨inV b hb, n.2.1, fun p hp => n.2.2 p (h.sub p hp)⟩

/-! k55: the program's hull *)-/

theorem atI_last2 {α : Type} (xs : List α) (u v : α) : atI (xs ++ [u, v]) (-2) = some u := by
  have hl : (xs ++ [u, v]).length = xs.length + 2 := by rw [List.length_append]; rfl
  unfold atI ixN
  rw [hl, if_neg (by decide), if_pos (by omega)]
  have e : (-2 + ((xs.length + 2 : Nat) : Int)).toNat = xs.length := by omega
  simp only [Option.bind_some]
  rw [e, List.getElem?_append_right (Nat.le_refl _), Nat.sub_self]
  rfl
def g_bend : G := fun ds R E M => ∃ (a b c : Pt), ds = [ePt a, ePt b, ePt c] ∧ (PB 2000 a) ∧ (PB 2000 b) ∧ (PB 2000 c) ∧ (R (.int (hd a b c)) M)
abbrev n_bend : List Str := ["one", "other", "third", "over"]
def tb_bend : DTS :=
  (dSeq (dSet 3 (dOp mulD (dOp subD (dIx (dVar 1) (dC (.int 0))) (dIx (dVar 0) (dC (.int 0)))) (dOp subD (dIx (dVar 2) (dC (.int 1))) (dIx (dVar 1) (dC (.int 1))))))
  (dRet (dOp subD (dVar 3) (dOp mulD (dOp subD (dIx (dVar 1) (dC (.int 1))) (dIx (dVar 0) (dC (.int 1)))) (dOp subD (dIx (dVar 2) (dC (.int 0))) (dIx (dVar 1) (dC (.int 0))))))))
theorem l_bend : ∀ ds R E M, g_bend ds R E M → ds.length = 3 := by
  rintro ds R E M ⟨_, _, _, rfl, -⟩; rfl
theorem u_bend {a b c : Pt} {R : PD} {E : Ex → MS → Prop} {M : MS} (ha : PB 2000 a) (hb : PB 2000 b) (hc : PB 2000 c) (k : R (.int (hd a b c)) M) : g_bend [ePt a, ePt b, ePt c] R E M := ⟨_, _, _, rfl, ha, hb, hc, k⟩
theorem h_bend : Hg g_bend tb_bend n_bend := by
  rintro ds R E M ⟨a, b, c, rfl, ha, hb, hc, k⟩
  unfold tb_bend
  obtain ⟨⟨a1, a2⟩, a3, a4⟩ := ha
  obtain ⟨⟨b1, b2⟩, b3, b4⟩ := hb
  obtain ⟨⟨c1, c2⟩, c3, c4⟩ := hc
  unfold ePt
  walk_at "dn"
  exact ⟨cms (by omega) (by omega), cms (by omega) (by omega), Rw.of k⟩
def g__law_hand : G := fun ds R E M => ∃ (a b c : Pt), ds = [ePt a, ePt b, ePt c] ∧ (PB 2000 a) ∧ (PB 2000 b) ∧ (PB 2000 c) ∧ (R (.int (hd a b c)) M)
abbrev n__law_hand : List Str := ["one", "other", "third", "over"]
def tb__law_hand : DTS :=
  (dSeq (dSet 3 (dOp mulD (dOp subD (dIx (dVar 1) (dC (.int 0))) (dIx (dVar 0) (dC (.int 0)))) (dOp subD (dIx (dVar 2) (dC (.int 1))) (dIx (dVar 1) (dC (.int 1))))))
  (dRet (dOp subD (dVar 3) (dOp mulD (dOp subD (dIx (dVar 1) (dC (.int 1))) (dIx (dVar 0) (dC (.int 1)))) (dOp subD (dIx (dVar 2) (dC (.int 0))) (dIx (dVar 1) (dC (.int 0))))))))
theorem l__law_hand : ∀ ds R E M, g__law_hand ds R E M → ds.length = 3 := by
  rintro ds R E M ⟨_, _, _, rfl, -⟩; rfl
theorem u__law_hand {a b c : Pt} {R : PD} {E : Ex → MS → Prop} {M : MS} (ha : PB 2000 a) (hb : PB 2000 b) (hc : PB 2000 c) (k : R (.int (hd a b c)) M) : g__law_hand [ePt a, ePt b, ePt c] R E M := ⟨_, _, _, rfl, ha, hb, hc, k⟩
theorem h__law_hand : Hg g__law_hand tb__law_hand n__law_hand := by
  rintro ds R E M ⟨a, b, c, rfl, ha, hb, hc, k⟩
  unfold tb__law_hand
  obtain ⟨⟨a1, a2⟩, a3, a4⟩ := ha
  obtain ⟨⟨b1, b2⟩, b3, b4⟩ := hb
  obtain ⟨⟨c1, c2⟩, c3, c4⟩ := hc
  unfold ePt
  walk_at "dn"
  exact ⟨cms (by omega) (by omega), cms (by omega) (by omega), Rw.of k⟩
def PBs (ps : List Pt) : Prop := ∀ p, p ∈ ps → PB 2000 p

/-! popTo *)-/
theorem popTo_le : ∀ (st : List Pt) (q : Pt), (popTo st q).length ≤ st.length
  | [], _ => Nat.le_refl _
  | [_], _ => Nat.le_refl _
  | t1 :: t2 :: r, q => by
    unfold popTo
    split
    · have := popTo_le (t2 :: r) q
      rw [List.length_cons]; omega
    · exact Nat.le_refl _
theorem popTo_sub : ∀ (st : List Pt) (q : Pt), ∀ x, x ∈ popTo st q → x ∈ st
  | [], _ => fun _ h => h
  | [_], _ => fun _ h => h
  | t1 :: t2 :: r, q => by
    unfold popTo
    split
    · exact fun x hx => .tail _ (popTo_sub (t2 :: r) q x hx)
    · exact fun x hx => hx


structure IsS (qs ps : List Pt) : Prop where
  nd : qs.Nodup
  mem : ∀ x, x ∈ qs ↔ x ∈ ps
  pw : qs.Pairwise ltP
theorem cut_last {α : Type} (xs : List α) : cut xs none (some (-1)) = xs.dropLast := by
  unfold cut
  rw [HT.sIx_none, List.drop_zero, Nat.sub_zero, List.dropLast_eq_take]
  congr 1
  show (if (-1 : Int) < 0 then (-1 + (xs.length : Int)).toNat else min (-1 : Int).toNat xs.length) = xs.length - 1
  rw [if_pos (by decide)]
  omega
theorem fold_le : ∀ (ps st : List Pt), (ps.foldl (fun st q => q :: popTo st q) st).length ≤ st.length + ps.length
  | [], st => by show st.length ≤ st.length + 0; omega
  | q :: ps, st => by
    have h1 := fold_le ps (q :: popTo st q)
    have h2 := popTo_le st q
    rw [List.length_cons] at h1
    show (ps.foldl (fun st q => q :: popTo st q) (q :: popTo st q)).length ≤ _
    rw [List.length_cons]
    omega
theorem chain_le (ps : List Pt) : (chainS ps).length ≤ ps.length := by
  have := fold_le ps []
  rw [List.length_nil] at this
  unfold chainS
  omega
def isEdge (ps : List Pt) (a b : Pt) : Prop := ∀ p, p ∈ ps → hd a b p ≤ 0 ∧ (hd a b p = 0 → on1 a b p)
theorem not_edge {ps : List Pt} {a b p : Pt} (hp : p ∈ ps) (h : ¬ (hd a b p ≤ 0 ∧ (hd a b p = 0 → on1 a b p))) : ¬ isEdge ps a b := fun z => h (z p hp)
instance (ps : List Pt) (a b : Pt) : Decidable (isEdge ps a b) := by unfold isEdge; infer_instance
def g__law_is_edge : G := fun ds R E M => ∃ (ps : List Pt) (a b : Pt), ds = [.lst (ps.map ePt), ePt a, ePt b] ∧ (PBs ps) ∧ (PB 2000 a) ∧ (PB 2000 b) ∧ (R (.bl (decide (isEdge ps a b))) M)
abbrev n__law_is_edge : List Str := ["points", "one", "other", "point", "by", "j"]
def tb__law_is_edge_b1 : DTS :=
  (dSeq (dSet 4 (dCall g__law_hand (dCons (dVar 1) (dCons (dVar 2) (dCons (dVar 3) dNil)))))
  (dSeq (dIfS (dTst (dOp gtD (dVar 4) (dC (.int 0)))) (dRet (dC (.bl false))) dNext)
  (dIfS (dTst (dOp (eqD id) (dVar 4) (dC (.int 0)))) (dFor (dItems (dTup (dCons (dC (.int 0)) (dCons (dC (.int 1)) dNil)))) (.nm 5) (dIfS (dNot (dTst (dChain leD leD (dCB minD (dCons (dIx (dVar 1) (dVar 5)) (dCons (dIx (dVar 2) (dVar 5)) dNil))) (dIx (dVar 3) (dVar 5)) (dCB maxD (dCons (dIx (dVar 1) (dVar 5)) (dCons (dIx (dVar 2) (dVar 5)) dNil)))))) (dRet (dC (.bl false))) dNext)) dNext)))
def tb__law_is_edge : DTS :=
  (dSeq (dFor (dItems (dVar 0)) (.nm 3) tb__law_is_edge_b1)
  (dRet (dC (.bl true))))
theorem l__law_is_edge : ∀ ds R E M, g__law_is_edge ds R E M → ds.length = 3 := by
  rintro ds R E M ⟨_, _, _, rfl, -⟩; rfl
theorem u__law_is_edge {ps : List Pt} {a b : Pt} {R : PD} {E : Ex → MS → Prop} {M : MS} (hok : PBs ps) (ha : PB 2000 a) (hb : PB 2000 b) (k : R (.bl (decide (isEdge ps a b))) M) : g__law_is_edge [.lst (ps.map ePt), ePt a, ePt b] R E M := ⟨_, _, _, rfl, hok, ha, hb, k⟩
theorem edge_b1 {a b p : Pt} {De : DEnds} {M : MS} {d0 d4 d5 : Option D} (ha : PB 2000 a) (hb : PB 2000 b) (hp : PB 2000 p) (h1 : ¬ (hd a b p ≤ 0 ∧ (hd a b p = 0 → on1 a b p)) → De.rt (.bl false) M) (h2 : (hd a b p ≤ 0 ∧ (hd a b p = 0 → on1 a b p)) → ∀ d4 d5, De.nx [d0, some (ePt a), some (ePt b), some (ePt p), d4, d5] M) :
    tb__law_is_edge_b1 De [d0, some (ePt a), some (ePt b), some (ePt p), d4, d5] M := by
  unfold tb__law_is_edge_b1
  walk_at "dd"
  refine u__law_hand ha hb hp ?_
  unfold ePt at *
  walk_at "dd"
  by_cases c1 : 0 < hd a b p
  · simp only [c1, decide_true, if_true]
    try walk_at "dd"
    exact h1 fun z => by omega
  · simp only [c1, decide_false, Bool.false_eq_true, if_false]
    try walk_at "dd"
    by_cases c2 : hd a b p = 0
    · simp only [c2, decide_true, if_true]
      try walk_at "dd"
      have hf : far (stp a b) (stp a p) = 0 := by rw [← hd_eq]; exact c2
      refine ⟨by decide, ?_⟩
      by_cases k1 : (if b.1 < a.1 then b.1 else a.1) ≤ p.1
      · simp only [k1, if_true]
        by_cases k2 : p.1 ≤ (if b.1 > a.1 then b.1 else a.1)
        · simp only [k2, not_true_eq_false, if_false]
          by_cases k3 : (if b.2 < a.2 then b.2 else a.2) ≤ p.2
          · simp only [k3, if_true]
            by_cases k4 : p.2 ≤ (if b.2 > a.2 then b.2 else a.2)
            · simp only [k4, not_true_eq_false, if_false]
              exact h2 ⟨by omega, fun _ => ⟨hf, ⟨k1, k2⟩, k3, k4⟩⟩ _ _
            · simp only [k4, not_false_eq_true, if_true]
              exact h1 fun z => k4 (z.2 c2).2.2.2
          · simp only [k3, if_false]
            exact h1 fun z => k3 (z.2 c2).2.2.1
        · simp only [k2, not_false_eq_true, if_true]
          exact h1 fun z => k2 (z.2 c2).2.1.2
      · simp only [k1, if_false]
        exact h1 fun z => k1 (z.2 c2).2.1.1
    · simp only [c2, decide_false, Bool.false_eq_true, if_false]
      try walk_at "dd"
      exact h2 ⟨by omega, fun z => absurd z c2⟩ _ _
theorem h__law_is_edge : Hg g__law_is_edge tb__law_is_edge n__law_is_edge := by
  rintro ds R E M ⟨ps, a, b, rfl, hok, ha, hb, k⟩
  unfold tb__law_is_edge
  have hb1 := fun p De M d0 d4 d5 => edge_b1 (a := a) (b := b) (p := p) (De := De) (M := M) (d0 := d0) (d4 := d4) (d5 := d5) ha hb
  generalize tb__law_is_edge_b1 = tc at hb1 ⊢
  walk_at "dn"
  refine for_ind (fun its ρ M' => ∃ pre suf, its = suf.map ePt ∧ ps = pre ++ suf ∧ (∀ p, p ∈ pre → hd a b p ≤ 0 ∧ (hd a b p = 0 → on1 a b p)) ∧ M' = M ∧ ∃ d3 d4 d5, ρ = [some (.lst (ps.map ePt)), some (ePt a), some (ePt b), d3, d4, d5]) ?_ ?_ ⟨[], ps, rfl, rfl, fun _ z => (List.not_mem_nil z).elim, rfl, _, _, _, rfl⟩
  · rintro d its ρ M' Kx ⟨pre, suf, e1, e2, hpre, rfl, d3, d4, d5, rfl⟩ hk
    cases suf with
    | nil => cases e1
    | cons q suf =>
      cases e1
      have mq : q ∈ ps := by rw [e2]; exact List.mem_append_right _ (.head _)
      walk_at "dn"
      refine hb1 q _ _ _ _ _ (hok q mq) (fun z => ?_) fun z d4 d5 => ?_
      · rw [decide_eq_false (not_edge mq z)] at k
        exact Rw.of k
      · refine hk _ _ ⟨pre ++ [q], suf, rfl, by rw [e2, List.append_assoc]; rfl, fun p hp => ?_, rfl, _, _, _, rfl⟩
        rcases List.mem_append.mp hp with hp | hp
        · exact hpre p hp
        · rw [List.mem_singleton.mp hp]; exact z
  · rintro ρ M' ⟨pre, suf, e1, e2, hpre, rfl, d3, d4, d5, rfl⟩
    have hS : suf = [] := by cases suf <;> first | rfl | cases e1
    subst hS
    rw [List.append_nil] at e2
    subst e2
    rw [decide_eq_true (show isEdge ps a b from hpre)] at k
    walk_at "dn"
    exact Rw.of k

/-! k55: the law's hull *)-/

theorem nice_p4 {p : Pt} (h : PB 2000 p) : Nice 7 1 58 (ePt p) := by
  obtain ⟨⟨h1, h2⟩, h3, h4⟩ := h
  refine nice_tup (n := 28) (fun d hd => ?_) (show (28 + 1) * 2 ≤ 58 by decide)
  simp only [List.mem_cons, List.not_mem_nil, or_false] at hd
  rcases hd with rfl | rfl
  · exact nice_int (by decide) (by decide) (by omega)
  · exact nice_int (by decide) (by decide) (by omega)
theorem eqv_pt (p q : Pt) : PyData.eqv (pd (ePt p)) (pd (ePt q)) = decide (p = q) := by
  show PyData.eqv (.tuple [.int p.1, .int p.2]) (.tuple [.int q.1, .int q.2]) = _
  simp only [PyData.eqv, PyData.eqvAll, Bool.and_true]
  by_cases h : p = q
  · subst h; simp
  · rw [decide_eq_false h]
    by_cases h1 : p.1 = q.1
    · by_cases h2 : p.2 = q.2
      · exact absurd (Prod.ext h1 h2) h
      · simp [h2]
    · simp [h1]
theorem eq_pt {p q : Pt} {f : Bool → Bool} {R : PD} {M : MS} (hp : PB 2000 p) (hq : PB 2000 q) (k : R (.bl (f (decide (p = q)))) M) : eqD f (ePt p) (ePt q) R M :=
  eq_of (nice_p4 hp) (nice_p4 hq) (by decide) (by decide) (by rw [eqv_pt]; exact k)
theorem nice_pts {ps : List Pt} (h : PBs ps) {n : Nat} (hn : 59 * ps.length ≤ n) : Nice 7 2 n (.lst (ps.map ePt)) := nice_lst (n := 58) (fun d hd => by
  obtain ⟨p, hp, rfl⟩ := List.mem_map.mp hd
  exact nice_p4 (h p hp)) (by rw [List.length_map]; omega)
theorem any_pt (l : List Pt) (h : Pt) : ((pds (l.map ePt)).any fun z => PyData.eqv z (pd (ePt h))) = decide (h ∈ l) := by
  induction l with
  | nil => rfl
  | cons p l ih =>
    rw [List.map_cons, pds, List.any_cons, ih, eqv_pt]
    by_cases e : p = h
    · subst e; simp
    · have e' : ¬ h = p := fun z => e z.symm
      simp [e, e']
theorem nin_pt {a : Addr} {l : List Pt} {h : Pt} {R : PD} {M : MS} (hh : PB 2000 h) (hl : PBs l) (hn : l.length ≤ 1000) (e : M a = some (.lst (l.map ePt))) (k : R (.bl (!decide (h ∈ l))) M) : notInD (ePt h) (.ref a) R M := by
  have o1 := (nice_p4 hh).okP (by decide)
  have o2 := (nice_pts hl (n := 59000) (by omega)).okP (by decide)
  have p2 : isPs (l.map ePt) = true := o2.1
  exact ⟨ePt h, l.map ePt, rfl, ⟨_, e, rfl⟩, o1.1, p2, o1.2, o2.2, by rw [any_pt]; exact k⟩
/-- just one item passes -/
theorem filt_one {α : Type} {l : List α} (hnd : l.Nodup) {f : α → Bool} {b : α} (hb : b ∈ l) (h : ∀ x, x ∈ l → (f x = true ↔ x = b)) : l.filter f = [b] := by
  induction l with
  | nil => cases hb
  | cons a l ih =>
    have hn := List.nodup_cons.mp hnd
    rcases List.mem_cons.mp hb with rfl | hb
    · rw [List.filter_cons, if_pos ((h b (.head _)).mpr rfl)]
      rw [List.filter_eq_nil_iff.mpr fun x hx z => hn.1 (by have := (h x (.tail _ hx)).mp z; rwa [this] at hx)]
    · rw [List.filter_cons, if_neg fun z => hn.1 (by have := (h a (.head _)).mp z; rwa [this])]
      exact ih hn.2 hb fun x hx => h x (.tail _ hx)

def g__law_hull : G := fun ds R E M => ∃ (ps : List Pt), ds = [.tup (ps.map ePt)] ∧ (PBs ps) ∧ (ps.length < 64) ∧ (∀ qs, IsS qs ps → R (.tup ((hullV qs).map ePt)) M)
abbrev n__law_hull : List Str := ["points", "some", "found", "here", "other"]
def tb__law_hull_b1 : DTS :=
  (dSeq (dExpr (dMt appD (dVar 2) (dCons (dVar 3) dNil)))
  (dSet 3 (dIx (dLc (dItems (dVar 1)) (.nm 4) (dAnd (dTst (dOp (eqD fun k => !k) (dVar 4) (dVar 3))) (dTru (dCall g__law_is_edge (dCons (dVar 1) (dCons (dVar 3) (dCons (dVar 4) dNil)))))) (dVar 4) [4]) (dC (.int 0)))))
def tb__law_hull_c2 : DTS :=
  (dSeq (dAsg (.tp [(.nm 2), (.nm 3)]) (dTup (dCons (dLstN dNil) (dCons (dIx (dVar 1) (dC (.int 0))) dNil))))
  (dSeq (dWhile (dTst (dOp notInD (dVar 3) (dVar 2))) tb__law_hull_b1)
  (dRet (dCB tupD (dCons (dVar 2) dNil)))))
def tb__law_hull : DTS :=
  (dSeq (dSet 1 (dSortSetU (dVar 0)))
  (dSeq (dIfS (dTst (dOp ltD (dCB lenD (dCons (dVar 1) dNil)) (dC (.int 2)))) (dRet (dCB tupD (dCons (dVar 1) dNil))) dNext)
  tb__law_hull_c2))
theorem l__law_hull : ∀ ds R E M, g__law_hull ds R E M → ds.length = 1 := by
  rintro ds R E M ⟨_, rfl, -⟩; rfl
theorem u__law_hull {ps : List Pt} {R : PD} {E : Ex → MS → Prop} {M : MS} (hok : PBs ps) (hl : ps.length < 64) (k : ∀ qs, IsS qs ps → R (.tup ((hullV qs).map ePt)) M) : g__law_hull [.tup (ps.map ePt)] R E M := ⟨_, rfl, hok, hl, k⟩
theorem lhull_b1 {qs found : List Pt} {here next : Pt} {p : Addr} {De : DEnds} {M : MS} {d0 d4 : Option D} (hok : PBs qs) (hnd : qs.Nodup) (hl : qs.length < 64) (hf : found.length ≤ 1000) (hh : here ∈ qs) (hn : Nxt qs here next) (hM : M p = some (.lst (found.map ePt)))
    (k : ∀ d4, De.nx [d0, some (.lst (qs.map ePt)), some (.ref p), some (ePt next), d4] (um M p (.lst ((found ++ [here]).map ePt)))) :
    tb__law_hull_b1 De [d0, some (.lst (qs.map ePt)), some (.ref p), some (ePt here), d4] M := by
  unfold tb__law_hull_b1
  walk_at "dn"
  refine ⟨⟨_, hM⟩, _, hM, by rw [List.length_map]; exact slt (by omega), ?_⟩
  refine lc_ind (fun its acc M' => M' = um M p (.lst (List.map ePt found ++ [ePt here])) ∧ ∃ pre suf, its = suf.map ePt ∧ qs = pre ++ suf ∧ acc = (pre.filter fun x => decide (x ≠ here ∧ isEdge qs here x)).map ePt) ?_ ?_ ⟨rfl, [], qs, rfl, rfl, rfl⟩
  · rintro d its acc M' Kx ⟨rfl, pre, suf, e1, e2, rfl⟩ hk
    cases suf with
    | nil => cases e1
    | cons x suf =>
      cases e1
      have mx : x ∈ qs := by rw [e2]; exact List.mem_append_right _ (.head _)
      have hln := congrArg List.length e2
      rw [List.length_append, List.length_cons] at hln
      have hfl := List.length_filter_le (fun x => decide (x ≠ here ∧ isEdge qs here x)) pre
      have no : ¬ (x ≠ here ∧ isEdge qs here x) → Kx ((pre.filter fun x => decide (x ≠ here ∧ isEdge qs here x)).map ePt) (um M p (.lst (List.map ePt found ++ [ePt here]))) := fun z => hk _ _ ⟨rfl, pre ++ [x], suf, rfl, by rw [e2, List.append_assoc]; rfl, by rw [List.filter_append, List.filter_cons, if_neg (by rw [decide_eq_true_eq]; exact z), List.filter_nil, List.append_nil]⟩
      walk_at "dn"
      refine eq_pt (hok x mx) (hok here hh) ?_
      by_cases c1 : x = here
      · simp only [c1, decide_true, Bool.not_true, Bool.false_eq_true, if_false]
        try walk_at "dn"
        exact no fun z => z.1 c1
      · simp only [c1, decide_false, Bool.not_false, if_true]
        try walk_at "dn"
        refine u__law_is_edge hok (hok here hh) (hok x mx) ?_
        try walk_at "dn"
        by_cases c2 : isEdge qs here x
        · simp only [c2, decide_true, if_true]
          try walk_at "dn"
          refine ⟨by rw [List.length_map]; exact slt (by omega), hk _ _ ⟨rfl, pre ++ [x], suf, rfl, by rw [e2, List.append_assoc]; rfl, by rw [List.filter_append, List.filter_cons, if_pos (by rw [decide_eq_true_eq]; exact ⟨c1, c2⟩), List.filter_nil, List.map_append]; rfl⟩⟩
        · simp only [c2, decide_false, Bool.false_eq_true, if_false]
          try walk_at "dn"
          exact no fun z => c2 z.2
  · rintro acc M' ⟨rfl, pre, suf, e1, e2, rfl⟩
    have hS : suf = [] := by cases suf <;> first | rfl | cases e1
    subst hS
    rw [List.append_nil] at e2
    subst e2
    have hone := filt_one hnd (f := fun x => decide (x ≠ here ∧ isEdge qs here x)) hn.1 fun x hx => by
      rw [decide_eq_true_eq]
      exact ⟨fun z => nxt_one ⟨hx, z.1, z.2⟩ hn, fun z => by rw [z]; exact ⟨hn.2.1, hn.2.2⟩⟩
    rw [hone]
    refine it_at (x := ePt next) 0 rfl rfl ?_
    rw [List.map_append] at k
    exact k _
theorem lhull_c2 {qs : List Pt} {R : PD} {E : Ex → MS → Prop} {M : MS} {d0 d2 d3 d4 : Option D} (hok : PBs qs) (hnd : qs.Nodup) (hpw : qs.Pairwise ltP) (h2 : 2 ≤ qs.length) (hl : qs.length < 64) (k : R (.tup ((hullV qs).map ePt)) M) :
    tb__law_hull_c2 (ends R E) [d0, some (.lst (qs.map ePt)), d2, d3, d4] M := by
  obtain ⟨m, hr⟩ := round_hull hok (hpw.imp_of_mem fun {a b} ha hb h => (ltP_cd (hok a ha) (hok b hb)).mp h) h2
  have hb1 := fun found here next p De M d0 d4 hf hh hn hM => lhull_b1 (qs := qs) (found := found) (here := here) (next := next) (p := p) (De := De) (M := M) (d0 := d0) (d4 := d4) hok hnd hl hf hh hn hM
  obtain ⟨r, eV⟩ := hr.hd
  generalize hullV qs = V at *
  have hVl : V.length ≤ qs.length := hr.nd.length_le_of_subset fun x hx => hr.sub x hx
  have mV : m ∈ V := by rw [eV]; exact .head _
  have eq0 : ∃ l, qs = m :: l := by
    match qs, h2, hpw, hok, hr with
    | x :: l, _, hpw, hok, hr =>
      refine ⟨l, ?_⟩
      have hm := hr.sub m mV
      rcases List.mem_cons.mp hm with e | e
      · rw [e]
      · have h3 := (ltP_cd (hok x (.head _)) (hok m hm)).mp ((List.pairwise_cons.mp hpw).1 m e)
        have h4 := hr.low x (.head _)
        omega
  obtain ⟨l, eq0⟩ := eq0
  unfold tb__law_hull_c2
  generalize tb__law_hull_b1 = tc at hb1 ⊢
  walk_at "dn"
  refine ⟨by decide, fun p hp => ?_⟩
  refine it_at (x := ePt m) 0 rfl (by rw [eq0]; rfl) ?_
  refine ⟨by decide, ?_⟩
  refine while_ind (fun n ρ M' => ∃ pre here suf, V ++ [m] = pre ++ here :: suf ∧ n = suf.length ∧ M' = um M p (.lst (pre.map ePt)) ∧ ∃ d4, ρ = [d0, some (.lst (qs.map ePt)), some (.ref p), some (ePt here), d4]) ?_ ⟨[], m, r ++ [m], by rw [eV]; rfl, rfl, rfl, _, rfl⟩
  rintro n ρ M' Kx ⟨pre, here, suf, e, rfl, rfl, d4, rfl⟩ hk
  have hin : ∀ x, x ∈ pre ++ here :: suf → x ∈ qs := fun x hx => by
    rw [← e] at hx
    rcases List.mem_append.mp hx with h | h
    · exact hr.sub x h
    · rw [List.mem_singleton.mp h]; exact hr.sub m mV
  have hh : here ∈ qs := hin here (List.mem_append_right _ (.head _))
  have hpre : PBs pre := fun x hx => hok x (hin x (List.mem_append_left _ hx))
  have hln := congrArg List.length e
  simp only [List.length_append, List.length_cons, List.length_nil] at hln
  walk_at "dn"
  refine nin_pt (hok here hh) hpre (by omega) um_same ?_
  cases suf with
  | nil =>
    obtain ⟨e1, e2⟩ := List.append_inj' e rfl
    subst e1
    have e3 : m = here := (List.cons.inj e2).1
    subst e3
    simp only [mV, decide_true, Bool.not_true]
    try walk_at "dn"
    exact Rw.le k (Le.um hp)
  | cons b suf =>
    have e4 : V = pre ++ here :: (b :: suf).dropLast := by
      have h := congrArg List.dropLast e
      rw [List.dropLast_concat, List.dropLast_append_of_ne_nil (by simp)] at h
      exact h
    have hno : here ∉ pre := by
      have hn := hr.nd
      rw [e4, List.nodup_append] at hn
      exact fun z => hn.2.2 here z here (.head _) rfl
    have hw := hr.way
    rw [e] at hw
    have hn : Nxt qs here b := hw.right.1
    simp only [hno, decide_false, Bool.not_false]
    try walk_at "dn"
    refine hb1 pre here b p _ _ _ _ (by omega) hh hn um_same fun d4 => ?_
    rw [um_um]
    exact hk _ _ _ (by rw [List.length_cons]; exact Nat.lt_succ_self _) ⟨pre ++ [here], b, suf, by rw [e, List.append_assoc]; rfl, rfl, rfl, _, rfl⟩
theorem h__law_hull : Hg g__law_hull tb__law_hull n__law_hull := by
  rintro ds R E M ⟨ps, rfl, hok, hl, k⟩
  unfold tb__law_hull
  walk_at "dn"
  refine ⟨ps, .inr rfl, hl, fun qs h1 h2 h3 => ?_⟩
  have hk := k qs ⟨h1, h2, h3⟩
  have hq : PBs qs := fun p hp => hok p ((h2 p).mp hp)
  have hln : qs.length ≤ ps.length := h1.length_le_of_subset fun x hx => (h2 x).mp hx
  rw [show qs.map dPr = qs.map ePt from rfl]
  have fin : ∀ d2 d3 d4, 2 ≤ qs.length → tb__law_hull_c2 (ends R E) [some (.tup (ps.map ePt)), some (.lst (qs.map ePt)), d2, d3, d4] M := fun d2 d3 d4 h => lhull_c2 hq h1 h3 h (by omega) hk
  generalize tb__law_hull_c2 = tc at fin ⊢
  try walk_at "dn"
  by_cases c : qs.length < 2
  · unfold hullV at hk
    rw [if_pos c] at hk
    rw [if_pos (by rw [List.length_map]; omega)]
    exact Rw.of hk
  · rw [if_neg (by rw [List.length_map]; omega)]
    exact fin _ _ _ (by omega)

/-- a store with one list of its own at q, the feed at a; all else that was is -/
structure Loc (F : MO → Prop) (M : MS) (a q : Addr) (L : List D) (M' : MS) : Prop where
  fd : ∃ o, M' a = some o ∧ F o
  ls : M' q = some (.lst L)
  nw : M q = none
  ne : q ≠ a
  kp : ∀ x u, x ≠ a → M x = some u → M' x = some u
theorem Loc.um {F F' : MO → Prop} {M M' : MS} {a p : Addr} {L : List D} {o : MO} (h : Loc F M a p L M') (f : F' o) : Loc F' M a p L (um M' a o) :=
  ⟨⟨o, um_same, f⟩, (um_ne h.ne).trans h.ls, h.nw, h.ne, fun x u h1 h2 => (um_ne h1).trans (h.kp x u h1 h2)⟩
theorem Loc.put {F : MO → Prop} {M M' : MS} {a p : Addr} {L L' : List D} (h : Loc F M a p L M') : Loc F M a p L' (DL.um M' p (.lst L')) := by
  obtain ⟨o, e, f⟩ := h.fd
  exact ⟨⟨o, (um_ne h.ne.symm).trans e, f⟩, um_same, h.nw, h.ne, fun x u h1 h2 => (um_ne (fun z => by rw [z, h.nw] at h2; cases h2)).trans (h.kp x u h1 h2)⟩
/-- the list is laid anew -/
theorem Loc.new {F : MO → Prop} {M M' : MS} {a p q : Addr} {L L' : List D} (h : Loc F M a p L M') (n : M' q = none) : Loc F M a q L' (DL.um M' q (.lst L')) := by
  obtain ⟨o, e, f⟩ := h.fd
  have ne : q ≠ a := fun z => by rw [z, e] at n; cases n
  have nw : M q = none := by
    cases z : M q with
    | none => rfl
    | some u => rw [h.kp q u ne z] at n; cases n
  exact ⟨⟨o, (um_ne ne.symm).trans e, f⟩, um_same, nw, ne, fun x u h1 h2 => (um_ne (fun z => by rw [z, nw] at h2; cases h2)).trans (h.kp x u h1 h2)⟩
theorem Loc.init {F : MO → Prop} {M : MS} {a q : Addr} {L : List D} (h : ∃ o, M a = some o ∧ F o) (n : M q = none) : Loc F M a q L (DL.um M q (.lst L)) := by
  obtain ⟨o, e, f⟩ := h
  have ne : q ≠ a := fun z => by rw [z, e] at n; cases n
  exact ⟨⟨o, (um_ne ne.symm).trans e, f⟩, um_same, n, ne, fun x u h1 h2 => (um_ne (fun z => by rw [z, n] at h2; cases h2)).trans h2⟩
/-- .. behind draws -/
theorem Loc.init1 {F : MO → Prop} {M : MS} {a q : Addr} {L : List D} {o : MO} (f : F o) (n : DL.um M a o q = none) : Loc F M a q L (DL.um (DL.um M a o) q (.lst L)) := by
  have ne : q ≠ a := fun z => by rw [z, um_same] at n; cases n
  have nw : M q = none := by rwa [um_ne ne] at n
  exact ⟨⟨o, (um_ne ne.symm).trans um_same, f⟩, um_same, nw, ne, fun x u h1 h2 => (um_ne (fun z => by rw [z, nw] at h2; cases h2)).trans ((um_ne h1).trans h2)⟩
theorem Loc.mono {F F' : MO → Prop} {M M' : MS} {a p : Addr} {L : List D} (h : Loc F M a p L M') (k : ∀ o, F o → F' o) : Loc F' M a p L M' := by
  obtain ⟨o, e, f⟩ := h.fd
  exact ⟨⟨o, e, k o f⟩, h.ls, h.nw, h.ne, h.kp⟩
theorem Loc.out {F : MO → Prop} {M M' : MS} {a p : Addr} {L : List D} (h : Loc F M a p L M') : ∃ o, F o ∧ Le (DL.um M a o) M' ∧ DL.um M a o p = none := by
  obtain ⟨o, e, f⟩ := h.fd
  refine ⟨o, f, fun q u hq => ?_, by rw [um_ne h.ne]; exact h.nw⟩
  by_cases e1 : q = a
  · subst e1
    rw [um_same] at hq
    rw [e, hq]
  · rw [um_ne e1] at hq
    exact h.kp q u e1 hq
/-- the list handed on as it is -/
theorem Loc.ret {F : MO → Prop} {M M' : MS} {a p : Addr} {L : List D} {R : PD} (h : Loc F M a p L M') (k : ∀ o, F o → R (.lst L) (DL.um M a o)) : Rw R (.ref p) M' := by
  obtain ⟨o, f, l, n⟩ := h.out
  exact Rw.frz (k o f) l h.ls n
theorem Loc.out' {F : MO → Prop} {M M' : MS} {a p : Addr} {L : List D} {R : PD} {d : D} (h : Loc F M a p L M') (k : ∀ o, F o → R d (DL.um M a o)) : Rw R d M' := by
  obtain ⟨o, f, l, n⟩ := h.out
  exact Rw.le (k o f) l

/-! k55: points drawn, mixed *)-/

def g__law_points : G := fun ds R E M => ∃ (a : Addr) (n : Int) (b : Nat), ds = [.ref a, .int n] ∧ (0 ≤ n ∧ n ≤ 20) ∧ (Feed M a (b + 83)) ∧ (∀ (ps : List Pt) (o : MO), (∀ p, p ∈ ps → PB 1000 p) → ps.length = n.toNat → FdO o b → R (.lst (ps.map ePt)) (um M a o))
abbrev n__law_points : List Str := ["feed", "many", "way", "found", "k", "a", "b", "x", "y"]
def tb__law_points_b1 : DTS :=
  (dSeq (dPar 7 8 (dCons (dCall g__law_draw (dCons (dVar 0) (dCons (dC (.int 5)) dNil))) (dCons (dCall g__law_draw (dCons (dVar 0) (dCons (dC (.int 5)) dNil))) dNil)))
  (dSeq (dIfS (dTst (dOp (eqD id) (dVar 2) (dC (.int 1)))) (dSet 8 (dOp mulD (dCall g__law_draw (dCons (dVar 0) (dCons (dC (.int 2)) dNil))) (dC (.int 7)))) dNext)
  (dSeq (dIfS (dTst (dOp (eqD id) (dVar 2) (dC (.int 2)))) (dPar 7 8 (dCons (dOp addD (dOp mulD (dVar 5) (dVar 7)) (dC (.int 1))) (dCons (dOp subD (dOp mulD (dVar 6) (dVar 7)) (dC (.int 2))) dNil))) dNext)
  (dSeq (dIfS (dTst (dOp (eqD id) (dVar 2) (dC (.int 3)))) (dPar 7 8 (dCons (dOp subD (dC (.int 999)) (dCall g__law_draw (dCons (dVar 0) (dCons (dC (.int 1999)) dNil)))) (dCons (dOp subD (dC (.int 999)) (dCall g__law_draw (dCons (dVar 0) (dCons (dC (.int 1999)) dNil)))) dNil))) dNext)
  (dSeq (dIfS (dTst (dOp (eqD id) (dVar 2) (dC (.int 4)))) (dAsg (.tp [(.nm 7), (.nm 8)]) (dIx (dLst (dCons (dTup (dCons (dC (.int 0)) (dCons (dC (.int 0)) dNil))) (dCons (dTup (dCons (dC (.int 6)) (dCons (dC (.int 0)) dNil))) (dCons (dTup (dCons (dC (.int 6)) (dCons (dC (.int 6)) dNil))) (dCons (dTup (dCons (dC (.int 0)) (dCons (dC (.int 6)) dNil))) (dCons (dTup (dCons (dC (.int 3)) (dCons (dC (.int 0)) dNil))) (dCons (dTup (dCons (dC (.int 6)) (dCons (dC (.int 3)) dNil))) (dCons (dTup (dCons (dC (.int 3)) (dCons (dC (.int 3)) dNil))) (dCons (dTup (dCons (dC (.int 0)) (dCons (dC (.int 3)) dNil))) dNil))))))))) (dCall g__law_draw (dCons (dVar 0) (dCons (dC (.int 8)) dNil))))) dNext)
  (dExpr (dMt appD (dVar 3) (dCons (dTup (dCons (dVar 7) (dCons (dVar 8) dNil))) dNil))))))))
def tb__law_points : DTS :=
  (dSeq (dSet 2 (dCall g__law_draw (dCons (dVar 0) (dCons (dC (.int 6)) dNil))))
  (dSeq (dPar 5 6 (dCons (dOp subD (dCall g__law_draw (dCons (dVar 0) (dCons (dC (.int 7)) dNil))) (dC (.int 3))) (dCons (dOp subD (dCall g__law_draw (dCons (dVar 0) (dCons (dC (.int 7)) dNil))) (dC (.int 3))) dNil)))
  (dSeq (dSet 3 (dLstN dNil))
  (dSeq (dFor (dRng1 (dCons (dVar 1) dNil)) (.nm 4) tb__law_points_b1)
  (dRet (dVar 3))))))
theorem l__law_points : ∀ ds R E M, g__law_points ds R E M → ds.length = 2 := by
  rintro ds R E M ⟨_, _, _, rfl, -⟩; rfl
theorem u__law_points {a : Addr} {n : Int} {b : Nat} {R : PD} {E : Ex → MS → Prop} {M : MS} (hn : 0 ≤ n ∧ n ≤ 20) (hf : Feed M a (b + 83)) (k : ∀ (ps : List Pt) (o : MO), (∀ p, p ∈ ps → PB 1000 p) → ps.length = n.toNat → FdO o b → R (.lst (ps.map ePt)) (um M a o)) : g__law_points [.ref a, .int n] R E M := ⟨_, _, _, rfl, hn, hf, k⟩
theorem points_b1 {a p : Addr} {way ca cb n : Int} {b : Nat} {L : List Pt} {De : DEnds} {M M2 : MS} {d4 d7 d8 : Option D} (hca : -3 ≤ ca ∧ ca ≤ 3) (hcb : -3 ≤ cb ∧ cb ≤ 3) (t : Loc (fun o => FdO o (b + 4)) M a p (L.map ePt) M2) (hL : L.length ≤ 1000)
    (k : ∀ q M3 d7 d8, PB 1000 q → Loc (fun o => FdO o b) M a p ((L ++ [q]).map ePt) M3 → De.nx [some (.ref a), some (.int n), some (.int way), some (.ref p), d4, some (.int ca), some (.int cb), d7, d8] M3) :
    tb__law_points_b1 De [some (.ref a), some (.int n), some (.int way), some (.ref p), d4, some (.int ca), some (.int cb), d7, d8] M2 := by
  have fin : ∀ (x y : Int) o d7 d8 (M3 : MS), -1000 ≤ x ∧ x ≤ 1000 → -1000 ≤ y ∧ y ≤ 1000 → FdO o b → M3 = um M2 a o → (∃ ds, M3 p = some (.lst ds)) ∧ 0 + 1 + 1 ≤ sizeLine ∧ ∃ ds, M3 p = some (.lst ds) ∧ ds.length < sizeLine ∧ De.nx [some (.ref a), some (.int n), some (.int way), some (.ref p), d4, some (.int ca), some (.int cb), d7, d8] (um M3 p (.lst (ds ++ [.tup [.int x, .int y]]))) := by
    intro x y o d7 d8 M3 hx hy f e
    subst e
    have t2 := t.um (F' := fun o => FdO o b) f
    refine ⟨⟨_, t2.ls⟩, by decide, _, t2.ls, by rw [List.length_map]; exact slt (by omega), ?_⟩
    have t3 := t2.put (L' := (L ++ [(x, y)]).map ePt)
    have := k (x, y) _ d7 d8 ⟨hx, hy⟩ t3
    rw [List.map_append] at this
    exact this
  unfold tb__law_points_b1
  walk_at "dn"
  refine u__law_draw (b := b + 3) (by omega) t.fd fun x o1 x1 x2 f1 => ?_
  try walk_at "dn"
  refine u__law_draw (b := b + 2) (by omega) (Feed.um f1) fun y o2 y1 y2 f2 => ?_
  try walk_at "dn"
  by_cases w1 : way = 1
  · subst w1
    simp only [Int.reduceEq, if_false, if_true]
    refine u__law_draw (b := b + 1) (by omega) (Feed.um f2) fun z o3 z1 z2 f3 => ?_
    try walk_at "dn"
    try simp only [Int.reduceEq, if_false, if_true]
    try rw [um_um]
    refine ⟨cms (by omega) (by omega), ?_⟩
    exact fin x (z * 7) o3 _ _ _ (by omega) (by omega) (f3.mono (by omega)) rfl
  by_cases w2 : way = 2
  · subst w2
    simp only [Int.reduceEq, if_false, if_true]
    have m1 := mul_abs (A := 3) (B := 4) (a := ca) (b := x) (by omega) (by omega)
    have m2 := mul_abs (A := 3) (B := 4) (a := cb) (b := x) (by omega) (by omega)
    try walk_at "dn"
    refine ⟨cms (by omega) (by omega), cms (by omega) (by omega), ?_⟩
    exact fin (ca * x + 1) (cb * x - 2) o2 _ _ _ (by omega) (by omega) (f2.mono (by omega)) rfl
  by_cases w3 : way = 3
  · subst w3
    simp only [Int.reduceEq, if_false, if_true]
    refine u__law_draw (b := b + 1) (by omega) (Feed.um f2) fun z o3 z1 z2 f3 => ?_
    try walk_at "dn"
    refine u__law_draw (b := b) (by omega) (Feed.um f3) fun u o4 u1 u2 f4 => ?_
    try walk_at "dn"
    try simp only [Int.reduceEq, if_false, if_true]
    exact fin (999 - z) (999 - u) o4 _ _ _ (by omega) (by omega) f4 rfl
  by_cases w4 : way = 4
  · subst w4
    simp only [Int.reduceEq, if_false, if_true]
    refine ⟨by decide, by decide, by decide, by decide, by decide, by decide, by decide, by decide, by decide, ?_⟩
    refine u__law_draw (b := b + 1) (by omega) (Feed.um f2) fun z o3 z1 z2 f3 => ?_
    try walk_at "dn"
    refine it_in z1 z2 fun d hd => ?_
    have hd' : ∃ x y : Int, d = .tup [.int x, .int y] ∧ (-1000 ≤ x ∧ x ≤ 1000) ∧ -1000 ≤ y ∧ y ≤ 1000 := by
      simp only [List.mem_cons, List.not_mem_nil, or_false] at hd
      rcases hd with rfl | rfl | rfl | rfl | rfl | rfl | rfl | rfl <;> exact ⟨_, _, rfl, by decide, by decide⟩
    obtain ⟨x', y', rfl, hx', hy'⟩ := hd'
    try walk_at "dn"
    exact fin x' y' o3 _ _ _ hx' hy' (f3.mono (by omega)) rfl
  · simp only [w1, w2, w3, w4, decide_false, Bool.false_eq_true, if_false]
    try walk_at "dn"
    exact fin x y o2 _ _ _ (by omega) (by omega) (f2.mono (by omega)) rfl
theorem h__law_points : Hg g__law_points tb__law_points n__law_points := by
  rintro ds R E M ⟨a, n, b, rfl, hn, hf, k⟩
  unfold tb__law_points
  have hb1 := fun ca cb b p way L De M2 d4 d7 d8 h1 h2 t h3 => points_b1 (a := a) (p := p) (way := way) (ca := ca) (cb := cb) (n := n) (b := b) (L := L) (De := De) (M := M) (M2 := M2) (d4 := d4) (d7 := d7) (d8 := d8) h1 h2 t h3
  generalize tb__law_points_b1 = tc at hb1 ⊢
  walk_at "dn"
  refine u__law_draw (b := b + 82) (by omega) hf fun way o1 _ _ f1 => ?_
  try walk_at "dn"
  refine u__law_draw (b := b + 81) (by omega) (Feed.um f1) fun ca o2 a1 a2 f2 => ?_
  try walk_at "dn"
  refine u__law_draw (b := b + 80) (by omega) (Feed.um f2) fun cb o3 b1 b2 f3 => ?_
  try walk_at "dn"
  try rw [um_um]
  refine ⟨by decide, fun p hp => ?_⟩
  have t := Loc.init1 (F := fun o => FdO o (b + 80)) (L := []) f3 hp
  refine ⟨by omega, by omega, ?_⟩
  refine for_ind (fun its ρ M' => ∃ (i : Int) (m : Nat) (L : List Pt), its = rng i m ∧ L.length + m = n.toNat ∧ (∀ q, q ∈ L → PB 1000 q) ∧ Loc (fun o => FdO o (b + 4 * m)) M a p (L.map ePt) M' ∧ ∃ d4 d7 d8, ρ = [some (.ref a), some (.int n), some (.int way), some (.ref p), d4, some (.int (ca - 3)), some (.int (cb - 3)), d7, d8]) ?_ ?_ ⟨0, n.toNat, [], rfl, by rw [List.length_nil]; omega, fun _ z => (List.not_mem_nil z).elim, t.mono fun o f => f.mono (by omega), _, _, _, rfl⟩
  · rintro d its ρ M' Kx ⟨i, m, L, e1, e2, hL, t, d4, d7, d8, rfl⟩ hk
    cases m with
    | zero => cases e1
    | succ m =>
      rw [rng_c] at e1
      cases e1
      walk_at "dn"
      refine hb1 _ _ (b + 4 * m) p way L _ _ _ _ _ (by omega) (by omega) (t.mono fun o f => f.mono (by omega)) (by omega) fun q M3 d7 d8 hq t2 => hk _ _ ⟨i + 1, m, L ++ [q], rfl, by rw [List.length_append, List.length_singleton]; omega, fun z hz => ?_, t2, _, _, _, rfl⟩
      rcases List.mem_append.mp hz with h | h
      · exact hL z h
      · rw [List.mem_singleton.mp h]; exact hq
  · rintro ρ M' ⟨i, m, L, e1, e2, hL, t, d4, d7, d8, rfl⟩
    cases m with
    | zero =>
      walk_at "dn"
      exact t.ret fun o f => k L o hL (by omega) (f.mono (by omega))
    | succ m => rw [rng_c] at e1; cases e1

/-! things by their parts: of what kind the leaves are, how deep, how heavy -/
def El (k m : Nat) (d : D) : Prop := isP d = true ∧ (pd d).canLay0 = true ∧ (pd d).leavesShort (k + 1) = true ∧ (pd d).showable = true ∧ (pd d).depth ≤ m
def wt (d : D) : Nat := (pd d).weight
def wts (ds : List D) : Nat := PyData.weightAll (pds ds)
theorem el_seq {k m : Nat} : ∀ {ds : List D}, (isPs ds = true ∧ PyData.canLayAll0 (pds ds) = true ∧ PyData.leavesShortAll (k + 1) (pds ds) = true ∧ PyData.showableAll (pds ds) = true ∧ PyData.depthAll (pds ds) ≤ m) ↔ ∀ x, x ∈ ds → El k m x
  | [] => by simp [pds, isPs, PyData.canLayAll0, PyData.leavesShortAll, PyData.showableAll, PyData.depthAll]
  | d :: ds => by
    have ih := el_seq (k := k) (m := m) (ds := ds)
    have e1 : isPs (d :: ds) = (isP d && isPs ds) := rfl
    constructor
    · rintro ⟨h1, h2, h3, h4, h5⟩
      rw [e1, Bool.and_eq_true] at h1
      simp only [pds, PyData.canLayAll0, PyData.leavesShortAll, PyData.showableAll, PyData.depthAll, Bool.and_eq_true] at h2 h3 h4 h5
      have h6 := ih.mp ⟨h1.2, h2.2, h3.2, h4.2, by omega⟩
      intro e he
      rcases List.mem_cons.mp he with rfl | he
      · exact ⟨h1.1, h2.1, h3.1, h4.1, by omega⟩
      · exact h6 e he
    · intro h
      obtain ⟨h1, h2, h3, h4, h5⟩ := ih.mpr fun e he => h e (List.mem_cons_of_mem _ he)
      obtain ⟨g1, g2, g3, g4, g5⟩ := h d List.mem_cons_self
      rw [e1, g1, h1]
      simp only [pds, PyData.canLayAll0, PyData.leavesShortAll, PyData.showableAll, PyData.depthAll, g2, h2, g3, h3, g4, h4, Bool.and_self, true_and]
      omega
theorem el_tup {k m : Nat} {ds : List D} : El k (m + 1) (.tup ds) ↔ ∀ x, x ∈ ds → El k m x := by
  rw [← el_seq]
  unfold El
  simp only [isP, pd, PyData.canLay0, PyData.leavesShort, PyData.showable, PyData.depth, Nat.add_le_add_iff_right]
theorem el_lst {k m : Nat} {ds : List D} : El k (m + 1) (.lst ds) ↔ ∀ x, x ∈ ds → El k m x := by
  rw [← el_seq]
  unfold El
  simp only [isP, pd, PyData.canLay0, PyData.leavesShort, PyData.showable, PyData.depth, Nat.add_le_add_iff_right]
theorem el_tup0 {k m : Nat} {ds : List D} (h : El k m (.tup ds)) : ∃ j, m = j + 1 := by
  have := h.2.2.2.2
  simp only [pd, PyData.depth] at this
  exact ⟨m - 1, by omega⟩
theorem El.up {k m m' : Nat} {d : D} (h : El k m d) (k1 : m ≤ m') : El k m' d := ⟨h.1, h.2.1, h.2.2.1, h.2.2.2.1, Nat.le_trans h.2.2.2.2 k1⟩
theorem El.nice {k m n : Nat} {d : D} (h : El k m d) (w : wt d ≤ n) : Nice k m n d := ⟨h.1, h.2.1, h.2.2.1, h.2.2.2.1, h.2.2.2.2, w⟩
theorem nice_el {k m n : Nat} {d : D} (h : Nice k m n d) : El k m d := ⟨h.isp, h.lay, h.lev, h.shw, h.dep⟩
theorem nice_wt {k m n : Nat} {d : D} (h : Nice k m n d) : wt d ≤ n := h.wgt
theorem El.okP {k m : Nat} {d : D} (h : El k m d) (hm : m ≤ 60) : okP d := (h.nice (Nat.le_refl _)).okP hm
theorem wts_cons {d : D} {ds : List D} : wts (d :: ds) = wt d + 1 + wts ds := by
  simp only [wts, wt, pds, PyData.weightAll]
  try omega
theorem wts_nil : wts [] = 0 := by simp [wts, pds, PyData.weightAll]
theorem wts_app : ∀ {xs ys : List D}, wts (xs ++ ys) = wts xs + wts ys
  | [], ys => by rw [wts_nil]; simp
  | x :: xs, ys => by rw [List.cons_append, wts_cons, wts_cons, wts_app]; omega
theorem wt_tup {ds : List D} : wt (.tup ds) = wts ds := by simp only [wt, wts, pd, PyData.weight]
theorem wt_lst {ds : List D} : wt (.lst ds) = wts ds := by simp only [wt, wts, pd, PyData.weight]
theorem len_wts : ∀ {ds : List D}, ds.length ≤ wts ds
  | [] => by simp
  | d :: ds => by have := len_wts (ds := ds); rw [wts_cons, List.length_cons]; omega
theorem mem_wt : ∀ {ds : List D} {x : D}, x ∈ ds → wt x + 1 ≤ wts ds
  | d :: ds, x, h => by
    rw [wts_cons]
    rcases List.mem_cons.mp h with rfl | h
    · omega
    · have := mem_wt h; omega
theorem wts_set : ∀ {ds : List D} {i : Nat} {y : D}, wts (ds.set i y) ≤ wts ds + wt y
  | [], i, y => by simp [wts_nil]
  | d :: ds, 0, y => by rw [List.set_cons_zero, wts_cons, wts_cons]; omega
  | d :: ds, i + 1, y => by have := wts_set (ds := ds) (i := i) (y := y); rw [List.set_cons_succ, wts_cons, wts_cons]; omega
theorem wts_take_drop {ds : List D} (i : Nat) : wts (ds.take i) + wts (ds.drop i) = wts ds := by
  rw [← wts_app, List.take_append_drop]
theorem cut_mid {α : Type} (xs : List α) (j k : Nat) (h : k ≤ xs.length) : cut xs (some (j : Int)) (some (k : Int)) = (xs.drop j).take (k - j) := by
  unfold cut
  rw [HT.sIx_nat, HT.sIx_nat, Nat.min_eq_left h]
  by_cases g : j ≤ xs.length
  · rw [Nat.min_eq_left g]
  · rw [Nat.min_eq_right (by omega), List.drop_of_length_le (Nat.le_refl _), List.drop_of_length_le (by omega)]
    simp

/-! the law's own kinds, of any thing -/
theorem els_iff {m : Nat} : ∀ {ds : List D}, (isPs ds = true ∧ PyData.canLayAll0 (pds ds) = true ∧ PyData.depthAll (pds ds) ≤ m) ↔ ∀ d, d ∈ ds → isP d = true ∧ (pd d).canLay0 = true ∧ (pd d).depth ≤ m
  | [] => by simp [pds, isPs, PyData.canLayAll0, PyData.depthAll]
  | d :: ds => by
    have ih := els_iff (m := m) (ds := ds)
    have e1 : isPs (d :: ds) = (isP d && isPs ds) := rfl
    constructor
    · rintro ⟨h1, h2, h3⟩
      rw [e1, Bool.and_eq_true] at h1
      simp only [pds, PyData.canLayAll0, PyData.depthAll, Bool.and_eq_true] at h2 h3
      have h4 := ih.mp ⟨h1.2, h2.2, by omega⟩
      intro e he
      rcases List.mem_cons.mp he with rfl | he
      · exact ⟨h1.1, h2.1, by omega⟩
      · exact h4 e he
    · intro h
      obtain ⟨h1, h2, h3⟩ := ih.mpr fun e he => h e (List.mem_cons_of_mem _ he)
      obtain ⟨g1, g2, g3⟩ := h d List.mem_cons_self
      rw [e1, g1, h1]
      simp only [pds, PyData.canLayAll0, PyData.depthAll, g2, h2, Bool.and_self, true_and]
      omega
theorem shaped_iff (p : PyData) : SeqAt.shaped p = true ↔ p.canLay0 = true ∧ p.depth ≤ 64 := by
  unfold SeqAt.shaped
  rw [Bool.and_eq_true, decide_eq_true_eq]
theorem okP_tup {ds : List D} : okP (.tup ds) ↔ ∀ d, d ∈ ds → isP d = true ∧ (pd d).canLay0 = true ∧ (pd d).depth ≤ 63 := by
  rw [← els_iff]
  unfold okP
  rw [shaped_iff]
  simp only [isP, pd, PyData.canLay0, PyData.depth]
  constructor
  · rintro ⟨a, b, c⟩; exact ⟨a, b, by omega⟩
  · rintro ⟨a, b, c⟩; exact ⟨a, b, by omega⟩
theorem okP_lst {ds : List D} : okP (.lst ds) ↔ ∀ d, d ∈ ds → isP d = true ∧ (pd d).canLay0 = true ∧ (pd d).depth ≤ 63 := by
  rw [← els_iff]
  unfold okP
  rw [shaped_iff]
  simp only [isP, pd, PyData.canLay0, PyData.depth]
  constructor
  · rintro ⟨a, b, c⟩; exact ⟨a, b, by omega⟩
  · rintro ⟨a, b, c⟩; exact ⟨a, b, by omega⟩
theorem okP_el {d : D} (h : isP d = true ∧ (pd d).canLay0 = true ∧ (pd d).depth ≤ 63) : okP d := ⟨h.1, (shaped_iff _).mpr ⟨h.2.1, by omega⟩⟩
theorem q_lstNil {f : Bool → Bool} {ds : List D} {R : PD} {M : MS} (hk : okP (.lst ds)) (h : R (.bl (f ds.isEmpty)) M) : eqD f (.lst ds) (.lst []) R M := by
  refine eqD_gen hk okP_nil ?_
  cases ds with
  | nil => exact h
  | cons d ds =>
    rw [show PyData.eqv (pd (.lst (d :: ds))) (pd (.lst [])) = false by simp [pd, pds, PyData.eqv, PyData.eqvAll]]
    exact h
theorem eq_same {f : Bool → Bool} {d : D} {R : PD} {M : MS} (hk : okP d) (h : R (.bl (f true)) M) : eqD f d d R M := by
  refine eqD_gen hk hk ?_
  rw [SeqAt.eqv_refl (pd d) ((shaped_iff _).mp hk.2).1]
  exact h
/-- a comprehension that keeps the items that pass -/
theorem lc_filt {p : Pat} {tt : DTT} {te : DTE} {vs : List Nat} {ρ : Sl} {R : List D → MS → Prop} {M : MS} {ds : List D} (f : D → Bool)
    (step : ∀ d, d ∈ ds → ∀ (Ky : D → MS → Prop) (Kn : MS → Prop), (if f d = true then Ky d M else Kn M) → patW p d (wipeD ρ vs) (fun ρ1 M1 => tt ρ1 (fun b M2 => if b = true then te ρ1 Ky noX M2 else Kn M2) noX M1) M)
    (hn : ds.length ≤ sizeLine) (fin : R (ds.filter f) M) : lcW p tt te vs ρ R ds [] M := by
  refine lc_ind (fun its acc M' => M' = M ∧ ∃ pre, ds = pre ++ its ∧ acc = pre.filter f) ?_ ?_ ⟨rfl, [], rfl, rfl⟩
  · rintro d its acc M' Kx ⟨rfl, pre, e, rfl⟩ hk
    refine step d (by rw [e]; exact List.mem_append_right _ List.mem_cons_self) (fun y M3 => (pre.filter f).length < sizeLine ∧ Kx (pre.filter f ++ [y]) M3) (fun M2 => Kx (pre.filter f) M2) ?_
    have hl : (pre.filter f).length < sizeLine := by
      have h1 := List.length_filter_le f pre
      rw [e, List.length_append, List.length_cons] at hn
      omega
    by_cases c : f d = true
    · rw [if_pos c]
      refine ⟨hl, hk _ _ ⟨rfl, pre ++ [d], by rw [e, List.append_assoc]; rfl, ?_⟩⟩
      rw [List.filter_append, List.filter_cons_of_pos c, List.filter_nil]
    · rw [if_neg c]
      refine hk _ _ ⟨rfl, pre ++ [d], by rw [e, List.append_assoc]; rfl, ?_⟩
      rw [List.filter_append, List.filter_cons_of_neg c, List.filter_nil, List.append_nil]
  · rintro acc M' ⟨rfl, pre, e, rfl⟩
    rw [List.append_nil] at e
    rw [← e]
    exact fin
theorem filt_none {α : Type} {f : α → Bool} {ds : List α} : (ds.filter fun d => !f d).isEmpty = ds.all f := by
  induction ds with
  | nil => rfl
  | cons d ds ih =>
    cases h : f d with
    | true => rw [List.filter_cons_of_neg (by simp [h]), List.all_cons, h, ih, Bool.true_and]
    | false => rw [List.filter_cons_of_pos (by simp [h]), List.all_cons, h, Bool.false_and]; rfl

/-! numbers, points, rings by kind -/
/-- by kind, of any thing -/
def isNumB : D → Bool
  | .int _ => true
  | _ => false
def g_is_number : G := fun ds R _ M => match ds with
  | [d] => isP d = true ∧ R (.bl (isNumB d)) M
  | _ => False
abbrev n_is_number : List Str := ["thing"]
def tb_is_number : DTS :=
  (dRet (dAndV (dCB isiD (dCons (dVar 0) (dCons (dC (.ty "int")) dNil))) (dNotV (dCB isiD (dCons (dVar 0) (dCons (dC (.ty "bool")) dNil))))))
theorem l_is_number : ∀ ds R E M, g_is_number ds R E M → ds.length = 1 := by
  intro ds R E M h
  unfold g_is_number at h
  split at h
  · rfl
  · exact h.elim
theorem h_is_number : Hg g_is_number tb_is_number n_is_number := by
  intro ds R RE M h
  unfold g_is_number at h
  split at h
  · rename_i d
    obtain ⟨hp, k⟩ := h
    unfold tb_is_number
    cases d with
    | ty n => cases hp
    | ref a => cases hp
    | scr ns => cases hp
    | fn x => cases hp
    | clo F ws cs => cases hp
    | _ =>
      walk_at "dd"
      exact Rw.of k
  · exact h.elim
def areNumB : D → Int → Bool
  | .tup ds, k => decide ((ds.length : Int) = k) && ds.all isNumB
  | _, _ => false
/-- no tuple is too long -/
def LnOk (d : D) : Prop := ∀ ds, d = .tup ds → ds.length ≤ sizeLine
def g_are_numbers : G := fun ds R _ M => match ds with
  | [d, .int k] => isP d = true ∧ LnOk d ∧ R (.bl (areNumB d k)) M
  | _ => False
abbrev n_are_numbers : List Str := ["thing", "many", "one"]
def tb_are_numbers : DTS :=
  (dRet (dAndV (dCB isiD (dCons (dVar 0) (dCons (dC (.ty "tuple")) dNil))) (dAndV (dOp (eqD id) (dCB lenD (dCons (dVar 0) dNil)) (dVar 1)) (dCB allD (dCons (dLc (dItems (dVar 0)) (.nm 2) dYes (dCall g_is_number (dCons (dVar 2) dNil)) [2]) dNil)))))
theorem l_are_numbers : ∀ ds R E M, g_are_numbers ds R E M → ds.length = 2 := by
  intro ds R E M h
  unfold g_are_numbers at h
  split at h
  · rfl
  · exact h.elim
theorem isPs_mem : ∀ {ds : List D}, isPs ds = true → ∀ d, d ∈ ds → isP d = true
  | [], _, d, hd => (List.not_mem_nil hd).elim
  | x :: xs, h, d, hd => by
    have h' : (isP x && isPs xs) = true := h
    rw [Bool.and_eq_true] at h'
    rcases List.mem_cons.mp hd with rfl | hd
    · exact h'.1
    · exact isPs_mem h'.2 d hd
theorem h_are_numbers : Hg g_are_numbers tb_are_numbers n_are_numbers := by
  intro ds R RE M h
  unfold g_are_numbers at h
  split at h
  · rename_i d k
    obtain ⟨hp, hl, q⟩ := h
    unfold tb_are_numbers
    cases d with
    | ty n => cases hp
    | ref a => cases hp
    | scr ns => cases hp
    | fn x => cases hp
    | clo F ws cs => cases hp
    | tup ds =>
      walk_at "dn"
      have hl' := hl ds rfl
      unfold areNumB at q
      by_cases e : (ds.length : Int) = k
      · simp only [e, decide_true, if_true, Bool.true_and] at q ⊢
        try walk_at "dn"
        have em : ds = ds.map id := (List.map_id ds).symm
        rw [em]
        refine lc_mapG (g := fun d => D.bl (isNumB d)) id (fun d hd R k => ?_) hl' ?_
        · walk_at "dn"
          exact ⟨isPs_mem hp d hd, k⟩
        · try walk_at "dn"
          refine ⟨ds.map isNumB, by show _ = _; rw [List.map_map]; rfl, ?_⟩
          rw [List.all_map]
          exact Rw.of q
      · simp only [e, decide_false, if_false, Bool.false_and, Bool.false_eq_true] at q ⊢
        exact Rw.of q
    | _ =>
      walk_at "dn"
      exact Rw.of q
  · exact h.elim
def TT (d : D) : Prop := (∃ m, m ≤ 50 ∧ El 60 m d) ∧ wt d ≤ 5000000
theorem TT.isp {d : D} (h : TT d) : isP d = true := by obtain ⟨⟨m, _, e⟩, _⟩ := h; exact e.1
theorem TT.okP {d : D} (h : TT d) : okP d := by obtain ⟨⟨m, hm, e⟩, _⟩ := h; exact e.okP (by omega)
theorem TT.ln {d : D} (h : TT d) : LnOk d := fun ds e => by
  subst e
  have a := h.2
  rw [wt_tup] at a
  have b := len_wts (ds := ds)
  rw [sizeLine_eq]
  omega
theorem TT.el {ds : List D} (h : TT (.tup ds)) : ∀ x, x ∈ ds → TT x := fun x hx => by
  obtain ⟨⟨m, hm, e⟩, w⟩ := h
  obtain ⟨j, rfl⟩ := el_tup0 e
  rw [wt_tup] at w
  have := mem_wt hx
  exact ⟨⟨j, by omega, el_tup.mp e x hx⟩, by omega⟩
theorem TT.sub {ds es : List D} (h : TT (.tup ds)) (hs : ∀ x, x ∈ es → x ∈ ds) : DL.okP (.lst es) := okP_lst.mpr fun d hd => okP_tup.mp h.okP d (hs d hd)
def gTT (f : D → Bool) : G := fun ds R _ M => match ds with
  | [d] => TT d ∧ R (.bl (f d)) M
  | _ => False
theorem lTT {f : D → Bool} : ∀ ds R E M, gTT f ds R E M → ds.length = 1 := by
  intro ds R E M h
  unfold gTT at h
  split at h
  · rfl
  · exact h.elim
theorem useTT {f : D → Bool} {d : D} {R : PD} {E : Ex → MS → Prop} {M : MS} (h : TT d) (k : R (.bl (f d)) M) : gTT f [d] R E M := ⟨h, k⟩

def isPtB (d : D) : Bool := areNumB d 2
def isRgB : D → Bool
  | .tup ds => ds.all isPtB
  | _ => false
def g_is_point : G := gTT isPtB
abbrev n_is_point : List Str := ["thing"]
def tb_is_point : DTS :=
  (dRet (dCall g_are_numbers (dCons (dVar 0) (dCons (dC (.int 2)) dNil))))
theorem l_is_point : ∀ ds R E M, g_is_point ds R E M → ds.length = 1 := lTT
theorem h_is_point : Hg g_is_point tb_is_point n_is_point := by
  intro ds R RE M h
  unfold g_is_point gTT at h
  split at h
  · obtain ⟨t, k⟩ := h
    unfold tb_is_point
    walk_at "dn"
    exact ⟨t.isp, t.ln, Rw.of k⟩
  · exact h.elim
def g_is_ring : G := gTT isRgB
abbrev n_is_ring : List Str := ["thing", "one"]
def tb_is_ring : DTS :=
  (dRet (dAndV (dCB isiD (dCons (dVar 0) (dCons (dC (.ty "tuple")) dNil))) (dCB allD (dCons (dLc (dItems (dVar 0)) (.nm 1) dYes (dCall g_is_point (dCons (dVar 1) dNil)) [1]) dNil))))
theorem l_is_ring : ∀ ds R E M, g_is_ring ds R E M → ds.length = 1 := lTT
theorem all_bls {f : D → Bool} {ds : List D} : (ds.map f).all id = ds.all f := by rw [List.all_map]; rfl
theorem h_is_ring : Hg g_is_ring tb_is_ring n_is_ring := by
  intro ds R RE M h
  unfold g_is_ring gTT at h
  split at h
  · rename_i d
    obtain ⟨t, k⟩ := h
    unfold tb_is_ring
    cases d with
    | ty n => cases t.isp
    | ref a => cases t.isp
    | scr ns => cases t.isp
    | fn x => cases t.isp
    | clo F ws cs => cases t.isp
    | tup ds =>
      walk_at "dn"
      rw [show ds = ds.map id from (List.map_id ds).symm]
      refine lc_mapG (g := fun d => D.bl (isPtB d)) id (fun d hd R k => ?_) (t.ln ds rfl) ?_
      · walk_at "dn"
        exact useTT (t.el d hd) k
      · try walk_at "dn"
        refine ⟨ds.map isPtB, by show _ = _; rw [List.map_map]; rfl, ?_⟩
        rw [List.all_map]
        exact Rw.of k
    | _ =>
      walk_at "dn"
      exact Rw.of k
  · exact h.elim

/-! loops by an index *)-/
theorem for_rngI {p : Pat} {t : DTS} {De : DEnds} {n : Nat} (I : Nat → Sl → MS → Prop)
    (step : ∀ j, j < n → ∀ ρ M (Kx : Sl → MS → Prop), I j ρ M → (∀ ρ' M', I (j + 1) ρ' M' → Kx ρ' M') → patW p (.int (j : Int)) ρ (fun ρ1 M1 => t { De with nx := Kx, ct := Kx, bk := De.nx } ρ1 M1) M)
    (fin : ∀ ρ M, I n ρ M → De.nx ρ M) {ρ : Sl} {M : MS} (h : I 0 ρ M) : forW p t De (rng 0 n) ρ M := by
  refine for_ind (fun its ρ M => ∃ j m : Nat, its = rng (j : Nat) m ∧ j + m = n ∧ I j ρ M) ?_ ?_ ⟨0, n, rfl, Nat.zero_add _, h⟩
  · rintro d its ρ M Kx ⟨j, m, e1, e2, hI⟩ hk
    cases m with
    | zero => cases e1
    | succ m =>
      rw [rng_c] at e1
      cases e1
      exact step j (by omega) ρ M Kx hI fun ρ' M' h' => hk ρ' M' ⟨j + 1, m, rfl, by omega, h'⟩
  · rintro ρ M ⟨j, m, e1, e2, hI⟩
    cases m with
    | zero => exact fin ρ M (by rw [show n = j by omega]; exact hI)
    | succ m => rw [rng_c] at e1; cases e1
theorem for_enuI {α : Type} (e : α → D) (ps : List α) {p : Pat} {t : DTS} {De : DEnds} (I : Nat → Sl → MS → Prop)
    (step : ∀ j x, ps[j]? = some x → ∀ ρ M (Kx : Sl → MS → Prop), I j ρ M → (∀ ρ' M', I (j + 1) ρ' M' → Kx ρ' M') → patW p (.tup [.int (j : Int), e x]) ρ (fun ρ1 M1 => t { De with nx := Kx, ct := Kx, bk := De.nx } ρ1 M1) M)
    (fin : ∀ ρ M, I ps.length ρ M → De.nx ρ M) {ρ : Sl} {M : MS} (h : I 0 ρ M) : forW p t De (enuD (ps.map e)) ρ M := by
  rw [enuD_map]
  refine for_ind (fun its ρ M => ∃ j : Nat, its = (ps.mapIdx fun (i : Nat) p => D.tup [.int i, e p]).drop j ∧ j ≤ ps.length ∧ I j ρ M) ?_ ?_ ⟨0, rfl, Nat.zero_le _, h⟩
  · rintro d its ρ M Kx ⟨j, e1, e2, hI⟩ hk
    have hj : j < ps.length := by
      have := congrArg List.length e1
      rw [List.length_cons, List.length_drop, List.length_mapIdx] at this
      omega
    have hj2 : j < (ps.mapIdx fun (i : Nat) p => D.tup [.int i, e p]).length := by rw [List.length_mapIdx]; exact hj
    rw [List.drop_eq_getElem_cons hj2] at e1
    injection e1 with e3 e4
    rw [List.getElem_mapIdx] at e3
    subst e3
    exact step j ps[j] (List.getElem?_eq_getElem hj) ρ M Kx hI fun ρ' M' h' => hk ρ' M' ⟨j + 1, e4, hj, h'⟩
  · rintro ρ M ⟨j, e1, e2, hI⟩
    have : j = ps.length := by
      have := congrArg List.length e1
      rw [List.length_nil, List.length_drop, List.length_mapIdx] at this
      omega
    exact fin ρ M (by rw [← this]; exact hI)

/-! k56: the first that is bad *)-/
def fB (n : Nat) (bad : Nat → Bool) : Option Nat := (List.range n).find? bad
theorem fB_none {n : Nat} {bad : Nat → Bool} (h : ∀ i, i < n → bad i = false) : fB n bad = none := by
  unfold fB
  rw [List.find?_eq_none]
  intro i hi
  rw [h i (List.mem_range.mp hi)]
  decide
theorem fB_some {n j : Nat} {bad : Nat → Bool} (hj : j < n) (h : ∀ i, i < j → bad i = false) (b : bad j = true) : fB n bad = some j := by
  unfold fB
  rw [List.find?_eq_some_iff_append]
  refine ⟨b, List.range j, (List.range' (j + 1) (n - (j + 1))), ?_, fun i hi => by rw [h i (List.mem_range.mp hi)]; rfl⟩
  rw [List.range_eq_range', List.range_eq_range', show (j :: List.range' (j + 1) (n - (j + 1))) = List.range' j (n - j) by rw [show n - j = (n - (j + 1)) + 1 by omega, List.range'_succ], show n = j + (n - j) by omega, ← List.range'_append_1]
  simp
def fB2 (m n : Nat) (bad : Nat → Nat → Bool) : Option (Nat × Nat) := match fB m (fun k => (fB n (bad k)).isSome) with
  | none => none
  | some k => match fB n (bad k) with
    | none => none
    | some j => some (k, j)
def badC (ps r : List Pt) (k : Nat) : Bool := match r[k]? with
  | some c => !decide (c ∈ ps) || decide (c ∈ r.take k)
  | none => false
def lasP (r : List Pt) (a : Pt) : Pt := r.getLastD a
def btB (a b p : Pt) : Bool := decide (hd a b p = 0) && (decide ((if b.1 < a.1 then b.1 else a.1) ≤ p.1 ∧ p.1 ≤ (if b.1 > a.1 then b.1 else a.1)) && decide ((if b.2 < a.2 then b.2 else a.2) ≤ p.2 ∧ p.2 ≤ (if b.2 > a.2 then b.2 else a.2)))
def btw (r : List Pt) (p : Pt) : Bool := match r with
  | [] => false
  | a :: t => btB a (lasP (a :: t) a) p
def badF (ps r : List Pt) (n : Nat) : Bool := match ps[n]? with
  | some p => !btw r p
  | none => false
def rAt (r : List Pt) (k : Nat) : Pt := r.getD (k % r.length) (0, 0)
def badT (r : List Pt) (k : Nat) : Bool := decide (0 ≤ hd (rAt r k) (rAt r (k + 1)) (rAt r (k + 2)))
def badO (ps r : List Pt) (k n : Nat) : Bool := match ps[n]? with
  | some p => decide (0 < hd (rAt r k) (rAt r (k + 1)) p)
  | none => false
def badM (ps : List Pt) : List Pt → Bool
  | [] => false
  | a :: _ => ps.any fun p => decide (ltP p a)
def pap (w : Str) (d : D) : Ex := ⟨"NoPaper", [("at", d), ("word", .str w)]⟩

theorem in_pts {ps : List Pt} {p : Pt} {f : Bool → Bool} {R : PD} {M : MS} (hp : PB 2000 p) (hl : PBs ps) (hn : ps.length ≤ 1000) (k : R (.bl (f (decide (p ∈ ps)))) M) : inTG f (ePt p) (.tup (ps.map ePt)) R M := by
  have n1 := nice_p4 hp
  have n2 : Nice 7 2 100000 (.tup (ps.map ePt)) := nice_tup (n := 58) (fun d hd => by
    obtain ⟨q, hq, rfl⟩ := List.mem_map.mp hd
    exact nice_p4 (hl q hq)) (by rw [List.length_map]; omega)
  refine ⟨ePt p, sees_self n1.isp, n1.isp, (n2.okP (by decide)).1, (n1.okP (by decide)).2, (n2.okP (by decide)).2, ?_⟩
  rw [any_pt]
  exact k
def g_ask_corners : G := fun ds R E M => ∃ (ps r : List Pt), ds = [.tup (ps.map ePt), .tup (r.map ePt)] ∧ (PBs ps) ∧ (PBs r) ∧ (ps.length ≤ 1000) ∧ (r.length ≤ 1000) ∧ (match fB r.length (badC ps r) with | none => R .non M | some k => E (pap "corner" (.int k)) M) ∧ (True)
abbrev n_ask_corners : List Str := ["points", "thing", "k", "corner"]
def tb_ask_corners : DTS :=
  (dFor (dEnum (dCons (dVar 1) dNil)) (.tp [(.nm 2), (.nm 3)]) (dIfS (dOr (dTst (dOp notInTD (dVar 3) (dVar 0))) (dTst (dOp inTD (dVar 3) (dSl (dVar 1) dNoPart (dPart (dVar 2)))))) (dRaise "NoPaper" ["word", "at"] (dCons (dC (.str "corner")) (dCons (dVar 2) dNil))) dNext))
theorem l_ask_corners : ∀ ds R E M, g_ask_corners ds R E M → ds.length = 2 := by
  rintro ds R E M ⟨_, _, rfl, -⟩; rfl
theorem u_ask_corners {ps r : List Pt} {R : PD} {E : Ex → MS → Prop} {M : MS} (hp : PBs ps) (hr : PBs r) (lp : ps.length ≤ 1000) (lr : r.length ≤ 1000) (h : match fB r.length (badC ps r) with | none => R .non M | some k => E (pap "corner" (.int k)) M) (k : True) : g_ask_corners [.tup (ps.map ePt), .tup (r.map ePt)] R E M := ⟨_, _, rfl, hp, hr, lp, lr, h, k⟩
theorem h_ask_corners : Hg g_ask_corners tb_ask_corners n_ask_corners := by
  rintro ds R E M ⟨ps, r, rfl, hp, hr, lp, lr, h, k⟩
  unfold tb_ask_corners
  walk_at "dn"
  refine for_enuI ePt r (fun j ρ M' => M' = M ∧ (∀ i, i < j → badC ps r i = false) ∧ ∃ d2 d3, ρ = [some (.tup (ps.map ePt)), some (.tup (r.map ePt)), d2, d3]) ?_ ?_ ⟨rfl, fun i hi => absurd hi (Nat.not_lt_zero _), _, _, rfl⟩
  · rintro j x hx ρ M' Kx ⟨rfl, hb, d2, d3, rfl⟩ hk
    have hj := (List.getElem?_eq_some_iff.mp hx).1
    have px := hr x (List.mem_of_getElem? hx)
    have eb : badC ps r j = (!decide (x ∈ ps) || decide (x ∈ r.take j)) := by unfold badC; rw [hx]
    have yes : badC ps r j = true → ∃ M2, Le M2 M' ∧ E ⟨"NoPaper", [("at", .int j), ("word", .str "corner")]⟩ M2 := fun hbj => by
      rw [fB_some hj hb hbj] at h
      exact ⟨M', Le.refl M', h⟩
    have no : badC ps r j = false → Kx [some (.tup (ps.map ePt)), some (.tup (r.map ePt)), some (.int j), some (ePt x)] M' := fun hbj => hk _ _ ⟨rfl, fun i hi => by
      by_cases e : i = j
      · rw [e]; exact hbj
      · exact hb i (by omega), _, _, rfl⟩
    walk_at "dn"
    refine in_pts px hp lp ?_
    cases c1 : decide (x ∈ ps)
    · rw [c1] at eb
      simp only [Bool.not_false, if_true]
      exact yes (by rw [eb]; rfl)
    · rw [c1] at eb
      simp only [Bool.not_true, Bool.false_eq_true, if_false]
      rw [cut_take, ← List.map_take]
      refine in_pts px (fun q hq => hr q (List.mem_of_mem_take hq)) (by rw [List.length_take]; omega) ?_
      cases c2 : decide (x ∈ r.take j)
      · rw [c2] at eb
        simp only [id, Bool.false_eq_true, if_false]
        exact no (by rw [eb]; rfl)
      · rw [c2] at eb
        simp only [id, if_true]
        exact yes (by rw [eb]; rfl)
  · rintro ρ M' ⟨rfl, hb, d2, d3, rfl⟩
    rw [fB_none hb] at h
    exact Rw.of h
theorem ok_tpts {ps : List Pt} (hl : PBs ps) (hn : ps.length ≤ 1000) : okP (.tup (ps.map ePt)) := Nice.okP (k := 7) (m := 2) (n := 100000) (nice_tup (n := 58) (fun d hd => by
  obtain ⟨q, hq, rfl⟩ := List.mem_map.mp hd
  exact nice_p4 (hl q hq)) (by rw [List.length_map]; omega)) (by decide)
theorem eq_tnil {ps : List Pt} (hl : PBs ps) (hn : ps.length ≤ 1000) {f : Bool → Bool} {R : PD} {M : MS} (k : R (.bl (f ps.isEmpty)) M) : eqD f (.tup (ps.map ePt)) (.tup []) R M := by
  refine eqD_gen (ok_tpts hl hn) (ok_tpts (ps := []) (fun p hp => by cases hp) (by decide)) ?_
  have e : PyData.eqv (pd (.tup (ps.map ePt))) (pd (.tup [])) = ps.isEmpty := by
    show PyData.eqv (.tuple (pds (ps.map ePt))) (.tuple (pds [])) = _
    cases ps <;> simp [PyData.eqv, PyData.eqvAll, pds]
  rw [e]
  exact k
theorem lasP_it {a : Pt} {t : List Pt} {R : PD} {M : MS} (k : R (ePt (lasP (a :: t) a)) M) : itD ((a :: t).map ePt) (-1) R M := by
  refine it_last ?_ k
  rw [List.length_map, List.getElem?_map]
  have : (a :: t)[(a :: t).length - 1]? = some (lasP (a :: t) a) := by
    unfold lasP
    rw [List.getLastD_eq_getLast?, List.getLast?_eq_getElem?, List.getElem?_eq_getElem (by simp)]
    rfl
  rw [this]; rfl
theorem lasP_mem {a : Pt} {t : List Pt} : lasP (a :: t) a ∈ a :: t := by
  unfold lasP
  rw [List.getLastD_eq_getLast?, List.getLast?_eq_getElem?, List.getElem?_eq_getElem (by simp)]
  exact List.getElem_mem _
theorem chain2 {A B : Prop} [Decidable A] [Decidable B] {R : PD} {M : MS} (q : R (.bl (decide (A ∧ B))) M) : if A then R (.bl (decide B)) M else R (.bl false) M := by
  by_cases a : A
  · rw [if_pos a]
    simp only [a, true_and] at q
    exact q
  · rw [if_neg a]
    simp only [a, false_and, decide_false] at q
    exact q
def g_is_between : G := fun ds R E M => ∃ (p : Pt) (r : List Pt), ds = [ePt p, .tup (r.map ePt)] ∧ (PB 2000 p) ∧ (PBs r) ∧ (r.length ≤ 1000) ∧ (R (.bl (btw r p)) M)
abbrev n_is_between : List Str := ["point", "thing", "one", "other", "j"]
def tb_is_between : DTS :=
  (dSeq (dIfS (dTst (dOp (eqD id) (dVar 1) (dTup dNil))) (dRet (dC (.bl false))) dNext)
  (dSeq (dAsg (.tp [(.nm 2), (.nm 3)]) (dTup (dCons (dIx (dVar 1) (dC (.int 0))) (dCons (dIx (dVar 1) (dUn negD (dC (.int 1)))) dNil))))
  (dSeq (dIfS (dTst (dOp (eqD fun k => !k) (dCall g_bend (dCons (dVar 2) (dCons (dVar 3) (dCons (dVar 0) dNil)))) (dC (.int 0)))) (dRet (dC (.bl false))) dNext)
  (dRet (dCB allD (dCons (dLc (dItems (dTup (dCons (dC (.int 0)) (dCons (dC (.int 1)) dNil)))) (.nm 4) dYes (dChain leD leD (dCB minD (dCons (dIx (dVar 2) (dVar 4)) (dCons (dIx (dVar 3) (dVar 4)) dNil))) (dIx (dVar 0) (dVar 4)) (dCB maxD (dCons (dIx (dVar 2) (dVar 4)) (dCons (dIx (dVar 3) (dVar 4)) dNil)))) [4]) dNil))))))
theorem l_is_between : ∀ ds R E M, g_is_between ds R E M → ds.length = 2 := by
  rintro ds R E M ⟨_, _, rfl, -⟩; rfl
theorem u_is_between {p : Pt} {r : List Pt} {R : PD} {E : Ex → MS → Prop} {M : MS} (hp : PB 2000 p) (hr : PBs r) (lr : r.length ≤ 1000) (k : R (.bl (btw r p)) M) : g_is_between [ePt p, .tup (r.map ePt)] R E M := ⟨_, _, rfl, hp, hr, lr, k⟩
theorem h_is_between : Hg g_is_between tb_is_between n_is_between := by
  rintro ds R E M ⟨p, r, rfl, hp, hr, lr, k⟩
  unfold tb_is_between
  walk_at "dn"
  refine ⟨Nat.zero_le _, eq_tnil hr lr ?_⟩
  cases r with
  | nil =>
    try walk_at "dn"
    exact Rw.of k
  | cons a t =>
    have ha := hr a (.head _)
    have hb := hr _ (lasP_mem (a := a) (t := t))
    have k2 : R (.bl (btB a (lasP (a :: t) a) p)) M := k
    simp only [List.isEmpty_cons, id, Bool.false_eq_true, if_false]
    try walk_at "dn"
    refine it_at (x := ePt a) 0 rfl rfl (lasP_it ?_)
    generalize lasP (a :: t) a = b at *
    try walk_at "dn"
    refine ⟨by decide, ?_⟩
    refine u_bend ha hb hp ?_
    unfold btB at k2
    by_cases c : hd a b p = 0
    · rw [decide_eq_true c, Bool.true_and] at k2
      try walk_at "dn"
      rw [if_neg (fun h => h c)]
      refine ⟨by decide, ?_⟩
      rw [show ([D.int 0, D.int 1] : List D) = [(0 : Int), 1].map D.int from rfl]
      refine lc_mapG (fun i : Int => D.int i) (fun i : Int => D.bl (if i = 0 then decide ((if b.1 < a.1 then b.1 else a.1) ≤ p.1 ∧ p.1 ≤ (if b.1 > a.1 then b.1 else a.1)) else decide ((if b.2 < a.2 then b.2 else a.2) ≤ p.2 ∧ p.2 ≤ (if b.2 > a.2 then b.2 else a.2)))) (fun i hi R q => ?_) (by show (2 : Nat) ≤ sizeLine; decide) ?_
      · simp only [List.mem_cons, List.not_mem_nil, or_false] at hi
        unfold ePt
        rcases hi with rfl | rfl
        · walk_at "dn"
          rw [if_pos rfl] at q
          exact chain2 q
        · walk_at "dn"
          rw [if_neg (by decide)] at q
          exact chain2 q
      · try walk_at "dn"
        refine ⟨[_, _], rfl, ?_⟩
        rw [show ∀ x y : Bool, (if (0 : Int) = 0 then x else y) = x from fun _ _ => rfl, show ∀ x y : Bool, (if (1 : Int) = 0 then x else y) = y from fun _ _ => rfl]
        rw [show ∀ x y : Bool, ([x, y].all id) = (x && y) from fun x y => by simp]
        exact Rw.of k2
    · rw [decide_eq_false c] at k2
      try walk_at "dn"
      rw [if_pos c]
      exact Rw.of k2
def g_ask_few : G := fun ds R E M => ∃ (ps r : List Pt), ds = [.tup (ps.map ePt), .tup (r.map ePt)] ∧ (PBs ps) ∧ (PBs r) ∧ (r.length ≤ 1000) ∧ (match fB ps.length (badF ps r) with | none => R .non M | some k => E (pap "few" (.int k)) M) ∧ (True)
abbrev n_ask_few : List Str := ["points", "thing", "n", "point"]
def tb_ask_few : DTS :=
  (dFor (dEnum (dCons (dVar 0) dNil)) (.tp [(.nm 2), (.nm 3)]) (dIfS (dNot (dTru (dCall g_is_between (dCons (dVar 3) (dCons (dVar 1) dNil))))) (dRaise "NoPaper" ["word", "at"] (dCons (dC (.str "few")) (dCons (dVar 2) dNil))) dNext))
theorem l_ask_few : ∀ ds R E M, g_ask_few ds R E M → ds.length = 2 := by
  rintro ds R E M ⟨_, _, rfl, -⟩; rfl
theorem u_ask_few {ps r : List Pt} {R : PD} {E : Ex → MS → Prop} {M : MS} (hp : PBs ps) (hr : PBs r) (lr : r.length ≤ 1000) (h : match fB ps.length (badF ps r) with | none => R .non M | some k => E (pap "few" (.int k)) M) (k : True) : g_ask_few [.tup (ps.map ePt), .tup (r.map ePt)] R E M := ⟨_, _, rfl, hp, hr, lr, h, k⟩
theorem h_ask_few : Hg g_ask_few tb_ask_few n_ask_few := by
  rintro ds R E M ⟨ps, r, rfl, hp, hr, lr, h, k⟩
  unfold tb_ask_few
  walk_at "dn"
  refine for_enuI ePt ps (fun j ρ M' => M' = M ∧ (∀ i, i < j → badF ps r i = false) ∧ ∃ d2 d3, ρ = [some (.tup (ps.map ePt)), some (.tup (r.map ePt)), d2, d3]) ?_ ?_ ⟨rfl, fun i hi => absurd hi (Nat.not_lt_zero _), _, _, rfl⟩
  · rintro j x hx ρ M' Kx ⟨rfl, hb, d2, d3, rfl⟩ hk
    have hj := (List.getElem?_eq_some_iff.mp hx).1
    have px := hp x (List.mem_of_getElem? hx)
    have eb : badF ps r j = !btw r x := by unfold badF; rw [hx]
    walk_at "dn"
    refine u_is_between px hr lr ?_
    cases c1 : btw r x
    · rw [c1] at eb
      try walk_at "dn"
      rw [fB_some hj hb eb] at h
      exact ⟨M', Le.refl M', h⟩
    · rw [c1] at eb
      try walk_at "dn"
      exact hk _ _ ⟨rfl, fun i hi => by
        by_cases e : i = j
        · rw [e]; exact eb
        · exact hb i (by omega), _, _, rfl⟩
  · rintro ρ M' ⟨rfl, hb, d2, d3, rfl⟩
    rw [fB_none hb] at h
    exact Rw.of h
theorem rAt_mem {r : List Pt} (h : 0 < r.length) (k : Nat) : rAt r k ∈ r := by
  unfold rAt
  rw [List.getD_eq_getElem?_getD, List.getElem?_eq_getElem (Nat.mod_lt _ h)]
  exact List.getElem_mem _
theorem rAt_lt {r : List Pt} {k : Nat} {x : Pt} (h : r[k]? = some x) : rAt r k = x := by
  have hk := (List.getElem?_eq_some_iff.mp h).1
  unfold rAt
  rw [Nat.mod_eq_of_lt hk, List.getD_eq_getElem?_getD, h]; rfl
theorem it_rAt {r : List Pt} {k c : Nat} {R : PD} {M : MS} (h : 0 < r.length) (q : R (ePt (rAt r (k + c))) M) : itD (r.map ePt) (((k : Int) + (c : Int)).fmod (r.length : Int)) R M := by
  refine it_at (x := ePt (rAt r (k + c))) ((k + c) % r.length) (by rw [Int.fmod_eq_emod_of_nonneg _ (by omega), ← Int.natCast_add]; exact (Int.natCast_emod _ _).symm) ?_ q
  rw [List.getElem?_map]
  unfold rAt
  rw [List.getD_eq_getElem?_getD, List.getElem?_eq_getElem (Nat.mod_lt _ h)]; rfl
def oMany (ps r : List Pt) : Option (Str × D) := match fB r.length (badT r) with
  | some k => some ("turn", .int k)
  | none => match fB2 r.length ps.length (badO ps r) with
    | some (k, n) => some ("out", .tup [.int k, .int n])
    | none => none
theorem fB2_none {m n : Nat} {bad : Nat → Nat → Bool} (h : ∀ i, i < m → fB n (bad i) = none) : fB2 m n bad = none := by
  unfold fB2
  rw [fB_none fun i hi => by rw [h i hi]; rfl]
theorem fB2_some {m n k j : Nat} {bad : Nat → Nat → Bool} (hk : k < m) (h : ∀ i, i < k → fB n (bad i) = none) (b : fB n (bad k) = some j) : fB2 m n bad = some (k, j) := by
  unfold fB2
  rw [fB_some hk (fun i hi => by rw [h i hi]; rfl) (by rw [b]; rfl)]
  simp only [b]
def g_ask_many : G := fun ds R E M => ∃ (ps r : List Pt), ds = [.tup (ps.map ePt), .tup (r.map ePt)] ∧ (PBs ps) ∧ (PBs r) ∧ (ps.length ≤ 1000) ∧ (r.length ≤ 1000) ∧ (3 ≤ r.length) ∧ (match oMany ps r with | none => R .non M | some (w, d) => E (pap w d) M) ∧ (True)
abbrev n_ask_many : List Str := ["points", "thing", "many", "k", "n", "point"]
def tb_ask_many_b2 : DTS :=
  (dFor (dEnum (dCons (dVar 0) dNil)) (.tp [(.nm 4), (.nm 5)]) (dIfS (dTst (dOp gtD (dCall g_bend (dCons (dIx (dVar 1) (dVar 3)) (dCons (dIx (dVar 1) (dOp modD (dOp addD (dVar 3) (dC (.int 1))) (dVar 2))) (dCons (dVar 5) dNil)))) (dC (.int 0)))) (dRaise "NoPaper" ["word", "at"] (dCons (dC (.str "out")) (dCons (dTup (dCons (dVar 3) (dCons (dVar 4) dNil))) dNil))) dNext))
def tb_ask_many_c2_p (t_b2 : DTS) : DTS :=
  (dFor (dRng1 (dCons (dVar 2) dNil)) (.nm 3) t_b2)
def tb_ask_many_c2 : DTS := tb_ask_many_c2_p tb_ask_many_b2
def tb_ask_many_p (t_c2 : DTS) : DTS :=
  (dSeq (dSet 2 (dCB lenD (dCons (dVar 1) dNil)))
  (dSeq (dFor (dRng1 (dCons (dVar 2) dNil)) (.nm 3) (dIfS (dTst (dOp geD (dCall g_bend (dCons (dIx (dVar 1) (dVar 3)) (dCons (dIx (dVar 1) (dOp modD (dOp addD (dVar 3) (dC (.int 1))) (dVar 2))) (dCons (dIx (dVar 1) (dOp modD (dOp addD (dVar 3) (dC (.int 2))) (dVar 2))) dNil)))) (dC (.int 0)))) (dRaise "NoPaper" ["word", "at"] (dCons (dC (.str "turn")) (dCons (dVar 3) dNil))) dNext))
  t_c2))
def tb_ask_many : DTS := tb_ask_many_p tb_ask_many_c2
theorem l_ask_many : ∀ ds R E M, g_ask_many ds R E M → ds.length = 2 := by
  rintro ds R E M ⟨_, _, rfl, -⟩; rfl
theorem u_ask_many {ps r : List Pt} {R : PD} {E : Ex → MS → Prop} {M : MS} (hp : PBs ps) (hr : PBs r) (lp : ps.length ≤ 1000) (lr : r.length ≤ 1000) (l3 : 3 ≤ r.length) (h : match oMany ps r with | none => R .non M | some (w, d) => E (pap w d) M) (k : True) : g_ask_many [.tup (ps.map ePt), .tup (r.map ePt)] R E M := ⟨_, _, rfl, hp, hr, lp, lr, l3, h, k⟩
theorem am_b2 {ps r : List Pt} {k : Nat} {De : DEnds} {M : MS} {d4 d5 : Option D} (hp : PBs ps) (hr : PBs r) (hk : k < r.length)
    (h : match fB ps.length (badO ps r k) with | none => ∀ d4 d5, De.nx [some (.tup (ps.map ePt)), some (.tup (r.map ePt)), some (.int r.length), some (.int k), d4, d5] M | some n => ∀ ρ, De.ex ⟨"NoPaper", [("at", .tup [.int k, .int n]), ("word", .str "out")]⟩ ρ M) :
    tb_ask_many_b2 De [some (.tup (ps.map ePt)), some (.tup (r.map ePt)), some (.int r.length), some (.int k), d4, d5] M := by
  have h0 : 0 < r.length := by omega
  unfold tb_ask_many_b2
  walk_at "dn"
  refine for_enuI ePt ps (fun j ρ M' => M' = M ∧ (∀ i, i < j → badO ps r k i = false) ∧ ∃ d4 d5, ρ = [some (.tup (ps.map ePt)), some (.tup (r.map ePt)), some (.int r.length), some (.int k), d4, d5]) ?_ ?_ ⟨rfl, fun i hi => absurd hi (Nat.not_lt_zero _), _, _, rfl⟩
  · rintro j x hx ρ M' Kx ⟨rfl, hb, d4, d5, rfl⟩ hkx
    have hj := (List.getElem?_eq_some_iff.mp hx).1
    have px := hp x (List.mem_of_getElem? hx)
    have eb : badO ps r k j = decide (0 < hd (rAt r k) (rAt r (k + 1)) x) := by unfold badO; rw [hx]
    have i0 : r[k]? = some (rAt r k) := by rw [rAt_lt (List.getElem?_eq_getElem hk), List.getElem?_eq_getElem hk]
    walk_at "dn"
    refine it_at (x := ePt (rAt r k)) k rfl (by rw [List.getElem?_map, i0]; rfl) ?_
    refine ⟨by omega, ?_⟩
    refine it_rAt (c := 1) h0 ?_
    refine u_bend (hr _ (rAt_mem h0 _)) (hr _ (rAt_mem h0 _)) px ?_
    try walk_at "dn"
    by_cases c : 0 < hd (rAt r k) (rAt r (k + 1)) x
    · rw [if_pos c]
      rw [decide_eq_true c] at eb
      rw [fB_some hj hb eb] at h
      exact ⟨by decide, h _⟩
    · rw [if_neg c]
      rw [decide_eq_false c] at eb
      exact hkx _ _ ⟨rfl, fun i hi => by
        by_cases e : i = j
        · rw [e]; exact eb
        · exact hb i (by omega), _, _, rfl⟩
  · rintro ρ M' ⟨rfl, hb, d4, d5, rfl⟩
    rw [fB_none hb] at h
    exact h _ _
theorem am_c2 {ps r : List Pt} {R : PD} {E : Ex → MS → Prop} {M : MS} {d3 d4 d5 : Option D} (hp : PBs ps) (hr : PBs r) (lr : r.length ≤ 1000) (h3 : 3 ≤ r.length)
    (h : match fB2 r.length ps.length (badO ps r) with | some (k, n) => E (pap "out" (.tup [.int k, .int n])) M | none => R .non M) :
    tb_ask_many_c2 (ends R E) [some (.tup (ps.map ePt)), some (.tup (r.map ePt)), some (.int r.length), d3, d4, d5] M := by
  have stp := fun (De : DEnds) (M : MS) (k : Nat) d4 d5 (hk : k < r.length) => am_b2 (De := De) (M := M) (k := k) (d4 := d4) (d5 := d5) hp hr hk
  unfold tb_ask_many_c2
  generalize tb_ask_many_b2 = tb at stp ⊢
  unfold tb_ask_many_c2_p
  walk_at "dn"
  refine ⟨by omega, by omega, ?_⟩
  refine for_rngI (fun j ρ M' => M' = M ∧ (∀ i, i < j → fB ps.length (badO ps r i) = none) ∧ ∃ d3 d4 d5, ρ = [some (.tup (ps.map ePt)), some (.tup (r.map ePt)), some (.int r.length), d3, d4, d5]) ?_ ?_ ⟨rfl, fun i hi => absurd hi (Nat.not_lt_zero _), _, _, _, rfl⟩
  · rintro j hj ρ M' Kx ⟨rfl, hb, d3, d4, d5, rfl⟩ hk
    walk_at "dn"
    have hj : j < r.length := by omega
    refine stp _ _ j _ _ hj ?_
    cases e : fB ps.length (badO ps r j) with
    | none =>
      exact fun d4 d5 => hk _ _ ⟨rfl, fun i hi => by
        by_cases e2 : i = j
        · rw [e2]; exact e
        · exact hb i (by omega), _, _, _, rfl⟩
    | some n =>
      intro ρ
      rw [fB2_some hj hb e] at h
      exact ⟨M', Le.refl M', h⟩
  · rintro ρ M' ⟨rfl, hb, d3, d4, d5, rfl⟩
    rw [fB2_none fun i hi => hb i (by omega)] at h
    exact Rw.of h
theorem h_ask_many : Hg g_ask_many tb_ask_many n_ask_many := by
  rintro ds R E M ⟨ps, r, rfl, hp, hr, lp, lr, l3, h, k⟩
  unfold tb_ask_many
  have fin := fun M (h : match fB2 r.length ps.length (badO ps r) with | some (k, n) => E (pap "out" (.tup [.int k, .int n])) M | none => R .non M) d3 d4 d5 => am_c2 (R := R) (E := E) (M := M) (d3 := d3) (d4 := d4) (d5 := d5) hp hr lr l3 h
  generalize tb_ask_many_c2 = tc at fin ⊢
  unfold tb_ask_many_p
  have h0 : 0 < r.length := by omega
  walk_at "dn"
  rw [List.length_map]
  refine ⟨by omega, by omega, ?_⟩
  refine for_rngI (fun j ρ M' => M' = M ∧ (∀ i, i < j → badT r i = false) ∧ ∃ d3 d4 d5, ρ = [some (.tup (ps.map ePt)), some (.tup (r.map ePt)), some (.int r.length), d3, d4, d5]) ?_ ?_ ⟨rfl, fun i hi => absurd hi (Nat.not_lt_zero _), _, _, _, rfl⟩
  · rintro j hj ρ M' Kx ⟨rfl, hb, d3, d4, d5, rfl⟩ hk
    have hj : j < r.length := by omega
    have i0 : r[j]? = some (rAt r j) := by rw [rAt_lt (List.getElem?_eq_getElem hj), List.getElem?_eq_getElem hj]
    have eb : badT r j = decide (0 ≤ hd (rAt r j) (rAt r (j + 1)) (rAt r (j + 2))) := rfl
    walk_at "dn"
    refine it_at (x := ePt (rAt r j)) j rfl (by rw [List.getElem?_map, i0]; rfl) ?_
    refine ⟨by omega, ?_⟩
    refine it_rAt (c := 1) h0 ?_
    refine ⟨by omega, ?_⟩
    refine it_rAt (c := 2) h0 ?_
    refine u_bend (hr _ (rAt_mem h0 _)) (hr _ (rAt_mem h0 _)) (hr _ (rAt_mem h0 _)) ?_
    try walk_at "dn"
    by_cases c : 0 ≤ hd (rAt r j) (rAt r (j + 1)) (rAt r (j + 2))
    · rw [if_pos c]
      rw [decide_eq_true c] at eb
      unfold oMany at h
      rw [fB_some hj hb eb] at h
      exact ⟨M', Le.refl M', h⟩
    · rw [if_neg c]
      rw [decide_eq_false c] at eb
      exact hk _ _ ⟨rfl, fun i hi => by
        by_cases e : i = j
        · rw [e]; exact eb
        · exact hb i (by omega), _, _, _, rfl⟩
  · rintro ρ M' ⟨rfl, hb, d3, d4, d5, rfl⟩
    unfold oMany at h
    rw [fB_none fun i hi => hb i (by omega)] at h
    refine fin _ ?_ _ _ _
    revert h
    cases fB2 r.length ps.length (badO ps r) with
    | none => exact fun h => h
    | some z => exact fun h => h

/-! k56: lets_hull *)-/
def mnP (p : Pt) (ps : List Pt) : Pt := ps.foldl (fun a y => if ltP y a then y else a) p
theorem mnP_mem : ∀ (ps : List Pt) (p : Pt), mnP p ps ∈ p :: ps
  | [], p => .head _
  | q :: ps, p => by
    show mnP (if ltP q p then q else p) ps ∈ _
    rcases List.mem_cons.mp (mnP_mem ps (if ltP q p then q else p)) with h | h
    · rw [h]
      split
      · exact .tail _ (.head _)
      · exact .head _
    · exact .tail _ (.tail _ h)
theorem ltP_tr {a b c : Pt} (h : ¬ ltP a b) (k : ¬ ltP b c) : ¬ ltP a c := by unfold ltP at *; omega
theorem ltP_irr (a : Pt) : ¬ ltP a a := by unfold ltP; omega
theorem mnP_le : ∀ (ps : List Pt) (p : Pt), ∀ y, y ∈ p :: ps → ¬ ltP y (mnP p ps)
  | [], p, y, h => by
    rw [List.mem_singleton.mp h]
    exact ltP_irr _
  | q :: ps, p, y, h => by
    have ih := mnP_le ps (if ltP q p then q else p)
    show ¬ ltP y (mnP (if ltP q p then q else p) ps)
    have h0 := ih _ (.head _)
    rcases List.mem_cons.mp h with rfl | h
    · refine ltP_tr ?_ h0
      split
      · rename_i c
        unfold ltP at *; omega
      · exact ltP_irr _
    · rcases List.mem_cons.mp h with rfl | h
      · refine ltP_tr ?_ h0
        split
        · exact ltP_irr _
        · assumption
      · exact ih y (.tail _ h)
theorem pd_inj {u v : Pt} (e : pd (ePt u) = pd (ePt v)) : u = v := by
  have e' : PyData.tuple [.int u.1, .int u.2] = PyData.tuple [.int v.1, .int v.2] := e
  injection e' with e1
  injection e1 with e2 e3
  injection e3 with e3 _
  injection e2 with e2
  injection e3 with e3
  exact Prod.ext e2 e3
theorem minD_pts : ∀ (ps : List Pt) (p : Pt), PySem.W.minD (pd (ePt p)) (pds (ps.map ePt)) = pd (ePt (mnP p ps))
  | [], p => rfl
  | q :: ps, p => by
    have e : PySem.W.dataLt (pd (ePt q)) (pd (ePt p)) = decide (ltP q p) := lt_dPr q p
    have ih := minD_pts ps (if ltP q p then q else p)
    show PySem.W.minD (if PySem.W.dataLt (pd (ePt q)) (pd (ePt p)) then pd (ePt q) else pd (ePt p)) (pds (ps.map ePt)) = pd (ePt (mnP (if ltP q p then q else p) ps))
    rw [e, ← ih]
    by_cases c : ltP q p
    · rw [decide_eq_true c, if_pos c]; rfl
    · rw [decide_eq_false c, if_neg c]; rfl
theorem q_minPs {p : Pt} {ps : List Pt} {R : PD} {M : MS} (k : R (ePt (mnP p ps)) M) : mnTD [.tup ((p :: ps).map ePt)] R M := by
  have isps : isPs ((p :: ps).map ePt) = true := by
    generalize p :: ps = l
    induction l with
    | nil => rfl
    | cons a l ih => show (isP (ePt a) && isPs (l.map ePt)) = true; rw [ih]; rfl
  have memd : ∀ z, z ∈ pds ((p :: ps).map ePt) → ∃ i j, z = .tuple [.int i, .int j] := by
    generalize p :: ps = l
    induction l with
    | nil => intro z hz; cases hz
    | cons a l ih =>
      intro z hz
      rcases List.mem_cons.mp hz with rfl | hz
      · exact ⟨_, _, rfl⟩
      · exact ih z hz
  refine ⟨isps, pd (ePt p), pds (ps.map ePt), rfl, ⟨fun x hx y hy => ?_, fun x hx => ?_⟩, ?_, fun e he ee => ?_⟩
  · obtain ⟨i, j, rfl⟩ := memd x hx
    obtain ⟨k, l, rfl⟩ := memd y hy
    simp only [PySem.W.alike, PySem.W.alikeAll, Bool.and_self]
  · obtain ⟨i, j, rfl⟩ := memd x hx
    exact fun e => by cases e
  · have : ∀ l : List Pt, PyData.depthAll (pds (l.map ePt)) ≤ 1 := by
      intro l
      induction l with
      | nil => simp [pds, PyData.depthAll]
      | cons a l ih =>
        simp [List.map_cons, pds, ePt, pd, PyData.depthAll, PyData.depth]
        omega
    have := this (p :: ps)
    show PyData.depthAll (pds ((p :: ps).map ePt)) ≤ 60
    omega
  · obtain ⟨q, hq, rfl⟩ := List.mem_map.mp he
    rw [minD_pts] at ee
    rw [pd_inj ee]
    exact k
def verd (ps r : List Pt) : Option (Str × D) := match fB r.length (badC ps r) with
  | some k => some ("corner", .int k)
  | none => match (if r.length < 3 then (match fB ps.length (badF ps r) with | some k => some ("few", .int k) | none => none) else oMany ps r) with
    | some z => some z
    | none => if badM ps r = true then some ("first", .int (-1)) else none
theorem rg_ring {d : D} (h : isRgB d = true) : ∃ r : List Pt, d = .tup (r.map ePt) := by
  cases d with
  | tup ds =>
    have h' : ds.all isPtB = true := h
    clear h
    induction ds with
    | nil => exact ⟨[], rfl⟩
    | cons x ds ih =>
      rw [List.all_cons, Bool.and_eq_true] at h'
      obtain ⟨r, e⟩ := ih h'.2
      have e := D.tup.inj e
      have hx : areNumB x 2 = true := h'.1
      cases x with
      | tup es =>
        have h2 : (decide ((es.length : Int) = 2) && es.all isNumB) = true := hx
        rw [Bool.and_eq_true, decide_eq_true_eq] at h2
        obtain ⟨h3, h4⟩ := h2
        match es, h3, h4 with
        | [u, v], _, h4 =>
          simp only [List.all_cons, List.all_nil, Bool.and_true, Bool.and_eq_true] at h4
          cases u with
          | int a =>
            cases v with
            | int b => exact ⟨(a, b) :: r, by rw [e]; rfl⟩
            | _ => simp [isNumB] at h4
          | _ => simp [isNumB] at h4
        | [], h3, _ => simp at h3
        | [_], h3, _ => simp at h3
        | _ :: _ :: _ :: _, h3, _ => simp only [List.length_cons] at h3; omega
      | _ => cases hx
  | _ => cases h
theorem ring_rg (r : List Pt) : isRgB (.tup (r.map ePt)) = true := by
  show (r.map ePt).all isPtB = true
  rw [List.all_map, List.all_eq_true]
  intro p hp
  rfl
theorem badC0 {ps r : List Pt} {a : Pt} {t : List Pt} (e : r = a :: t) (h : fB r.length (badC ps r) = none) : a ∈ ps := by
  unfold fB at h
  rw [List.find?_eq_none] at h
  have := h 0 (List.mem_range.mpr (by rw [e]; simp))
  subst e
  unfold badC at this
  simp at this
  exact this

def g_lets_hull : G := fun ds R E M => ∃ (ps : List Pt) (d : D), ds = [.tup (ps.map ePt), d] ∧ (PBs ps) ∧ (ps.length ≤ 1000) ∧ (TT d) ∧ (∀ r, d = .tup (r.map ePt) → PBs r ∧ r.length ≤ 1000) ∧ (isRgB d = false → E (pap "shape" (.int (-1))) M) ∧ (∀ r, d = .tup (r.map ePt) → match verd ps r with | none => R (.bl true) M | some (w, x) => E (pap w x) M) ∧ (True)
abbrev n_lets_hull : List Str := ["points", "thing"]
def tb_lets_hull_c3 : DTS :=
  (dSeq (dIfS (dAnd (dTst (dOp (eqD fun k => !k) (dVar 1) (dTup dNil))) (dTst (dOp (eqD fun k => !k) (dIx (dVar 1) (dC (.int 0))) (dCB mnTD (dCons (dVar 0) dNil))))) (dRaise "NoPaper" ["word", "at"] (dCons (dC (.str "first")) (dCons (dUn negD (dC (.int 1))) dNil))) dNext)
  (dRet (dC (.bl true))))
def tb_lets_hull_p (t_c3 : DTS) : DTS :=
  (dSeq (dIfS (dNot (dTru (dCall g_is_ring (dCons (dVar 1) dNil)))) (dRaise "NoPaper" ["word", "at"] (dCons (dC (.str "shape")) (dCons (dUn negD (dC (.int 1))) dNil))) dNext)
  (dSeq (dExpr (dCall g_ask_corners (dCons (dVar 0) (dCons (dVar 1) dNil))))
  (dSeq (dIfS (dTst (dOp ltD (dCB lenD (dCons (dVar 1) dNil)) (dC (.int 3)))) (dExpr (dCall g_ask_few (dCons (dVar 0) (dCons (dVar 1) dNil)))) (dExpr (dCall g_ask_many (dCons (dVar 0) (dCons (dVar 1) dNil)))))
  t_c3)))
def tb_lets_hull : DTS := tb_lets_hull_p tb_lets_hull_c3
theorem l_lets_hull : ∀ ds R E M, g_lets_hull ds R E M → ds.length = 2 := by
  rintro ds R E M ⟨_, _, rfl, -⟩; rfl
theorem u_lets_hull {ps : List Pt} {d : D} {R : PD} {E : Ex → MS → Prop} {M : MS} (hp : PBs ps) (lp : ps.length ≤ 1000) (td : TT d) (hr : ∀ r, d = .tup (r.map ePt) → PBs r ∧ r.length ≤ 1000) (h0 : isRgB d = false → E (pap "shape" (.int (-1))) M) (h1 : ∀ r, d = .tup (r.map ePt) → match verd ps r with | none => R (.bl true) M | some (w, x) => E (pap w x) M) (k : True) : g_lets_hull [.tup (ps.map ePt), d] R E M := ⟨_, _, rfl, hp, lp, td, hr, h0, h1, k⟩
theorem lh_c3 {ps r : List Pt} {R : PD} {E : Ex → MS → Prop} {M : MS} (hp : PBs ps) (lp : ps.length ≤ 1000) (hr : PBs r) (lr : r.length ≤ 1000) (hc : fB r.length (badC ps r) = none) (h : if badM ps r = true then E (pap "first" (.int (-1))) M else R (.bl true) M) :
    tb_lets_hull_c3 (ends R E) [some (.tup (ps.map ePt)), some (.tup (r.map ePt))] M := by
  unfold tb_lets_hull_c3
  walk_at "dn"
  refine ⟨Nat.zero_le _, eq_tnil hr lr ?_⟩
  cases r with
  | nil =>
    try walk_at "dn"
    rw [if_neg (show ¬ (badM ps [] = true) from Bool.false_ne_true)] at h
    exact Rw.of h
  | cons a t =>
    have ha := badC0 rfl hc
    simp only [List.isEmpty_cons, Bool.not_false, if_true]
    try walk_at "dn"
    refine it_at (x := ePt a) 0 rfl rfl ?_
    cases ps with
    | nil => cases ha
    | cons p ps =>
      refine q_minPs ?_
      have hm := mnP_mem ps p
      have hle := mnP_le ps p
      refine eq_pt (hp a ha) (hp _ hm) ?_
      by_cases c : a = mnP p ps
      · rw [decide_eq_true c]
        have e : badM (p :: ps) (a :: t) = false := by
          show (p :: ps).any (fun q => decide (ltP q a)) = false
          rw [List.any_eq_false]
          intro q hq
          rw [decide_eq_true_eq, c]
          exact hle q hq
        rw [e, if_neg (by decide)] at h
        try walk_at "dn"
        exact Rw.of h
      · rw [decide_eq_false c]
        have e : badM (p :: ps) (a :: t) = true := by
          show (p :: ps).any (fun q => decide (ltP q a)) = true
          rw [List.any_eq_true]
          refine ⟨_, hm, ?_⟩
          rw [decide_eq_true_eq]
          have h1 := hle a ha
          by_cases d : ltP (mnP p ps) a
          · exact d
          · exact absurd (by
              have : a.1 = (mnP p ps).1 ∧ a.2 = (mnP p ps).2 := by unfold ltP at *; omega
              exact Prod.ext this.1 this.2) c
        rw [e, if_pos rfl] at h
        try walk_at "dn"
        exact ⟨M, Le.refl M, h⟩
theorem h_lets_hull : Hg g_lets_hull tb_lets_hull n_lets_hull := by
  rintro ds R E M ⟨ps, d, rfl, hp, lp, td, hr, h0, h1, k⟩
  unfold tb_lets_hull
  have fin := fun (r : List Pt) M hr lr hc h => lh_c3 (ps := ps) (r := r) (R := R) (E := E) (M := M) hp lp hr lr hc h
  generalize tb_lets_hull_c3 = tc at fin ⊢
  unfold tb_lets_hull_p
  walk_at "dn"
  refine useTT td ?_
  try walk_at "dn"
  cases e : isRgB d with
  | false =>
    try walk_at "dn"
    exact ⟨M, Le.refl M, h0 e⟩
  | true =>
    obtain ⟨r, rfl⟩ := rg_ring e
    obtain ⟨hr1, lr⟩ := hr r rfl
    replace h1 := h1 r rfl
    unfold verd at h1
    try walk_at "dn"
    rw [if_neg (by decide)]
    refine u_ask_corners hp hr1 lp lr ?_ trivial
    cases hc : fB r.length (badC ps r) with
    | some k =>
      rw [hc] at h1
      exact ⟨M, Le.refl M, h1⟩
    | none =>
      rw [hc] at h1
      replace h1 : match (match (if r.length < 3 then (match fB ps.length (badF ps r) with | some k => some ("few", .int k) | none => none) else oMany ps r) with
        | some z => some z
        | none => if badM ps r = true then some ("first", .int (-1)) else none) with | none => R (.bl true) M | some (w, x) => E (pap w x) M := h1
      rw [List.length_map]
      have last : (match (if badM ps r = true then some (("first", .int (-1)) : Str × D) else none) with | none => R (.bl true) M | some (w, x) => E (pap w x) M) → if badM ps r = true then E (pap "first" (.int (-1))) M else R (.bl true) M := fun h => by
        split
        · rename_i c
          rw [if_pos c] at h
          exact h
        · rename_i c
          rw [if_neg c] at h
          exact h
      by_cases c : r.length < 3
      · rw [if_pos (by omega)]
        rw [if_pos c] at h1
        refine u_ask_few hp hr1 lr ?_ trivial
        cases hf : fB ps.length (badF ps r) with
        | some k =>
          rw [hf] at h1
          exact ⟨M, Le.refl M, h1⟩
        | none =>
          rw [hf] at h1
          exact fin r M hr1 lr hc (last h1)
      · rw [if_neg (by omega)]
        rw [if_neg c] at h1
        refine u_ask_many hp hr1 lp lr (by omega) ?_ trivial
        cases hf : oMany ps r with
        | some z =>
          rw [hf] at h1
          exact ⟨M, Le.refl M, h1⟩
        | none =>
          rw [hf] at h1
          exact fin r M hr1 lr hc (last h1)

/-! k56: the law's own judge *)-/
def g__law_is_ring : G := gTT isRgB
abbrev n__law_is_ring : List Str := ["thing", "one", "x"]
def tb__law_is_ring : DTS :=
  (dSeq (dIfS (dNot (dTru (dCB isiD (dCons (dVar 0) (dCons (dC (.ty "tuple")) dNil))))) (dRet (dC (.bl false))) dNext)
  (dSeq (dFor (dItems (dVar 0)) (.nm 1) (dSeq (dIfS (dOr (dNot (dTru (dCB isiD (dCons (dVar 1) (dCons (dC (.ty "tuple")) dNil))))) (dTst (dOp (eqD fun k => !k) (dCB lenD (dCons (dVar 1) dNil)) (dC (.int 2))))) (dRet (dC (.bl false))) dNext)
  (dIfS (dTst (dOp (eqD fun k => !k) (dLc (dItems (dVar 1)) (.nm 2) (dOr (dNot (dTru (dCB isiD (dCons (dVar 2) (dCons (dC (.ty "int")) dNil))))) (dTru (dCB isiD (dCons (dVar 2) (dCons (dC (.ty "bool")) dNil))))) (dVar 2) [2]) (dLst dNil))) (dRet (dC (.bl false))) dNext)))
  (dRet (dC (.bl true)))))
theorem l__law_is_ring : ∀ ds R E M, g__law_is_ring ds R E M → ds.length = 1 := lTT
theorem h__law_is_ring : Hg g__law_is_ring tb__law_is_ring n__law_is_ring := by
  intro ds R RE M h
  unfold g__law_is_ring gTT at h
  split at h
  · rename_i d
    obtain ⟨t, k⟩ := h
    unfold tb__law_is_ring
    cases d with
    | ty n => cases t.isp
    | ref a => cases t.isp
    | scr ns => cases t.isp
    | fn x => cases t.isp
    | clo F ws cs => cases t.isp
    | tup ds =>
      walk_at "dn"
      refine for_ind (fun its ρ M' => M' = M ∧ (∃ pre, ds = pre ++ its ∧ pre.all isPtB = true) ∧ ∃ d1 d2, ρ = [some (.tup ds), d1, d2]) ?_ ?_ ⟨rfl, ⟨[], rfl, rfl⟩, _, _, rfl⟩
      · rintro d its ρ M' Kx ⟨rfl, ⟨pre, e1, e2⟩, d1, d2, rfl⟩ hk
        have td : TT d := t.el d (by rw [e1]; exact List.mem_append_right _ (.head _))
        have no : isPtB d = false → Rw R (.bl false) M' := fun h => by
          have : isRgB (.tup ds) = false := by
            show ds.all isPtB = false
            rw [e1, List.all_append, List.all_cons, h]
            simp
          rw [this] at k
          exact Rw.of k
        have yes : isPtB d = true → ∀ d2, Kx [some (.tup ds), some d, d2] M' := fun h d2 => hk _ _ ⟨rfl, ⟨pre ++ [d], by rw [e1, List.append_assoc]; rfl, by rw [List.all_append, e2, List.all_cons, h]; rfl⟩, _, _, rfl⟩
        walk_at "dn"
        cases d with
        | ty n => cases td.isp
        | ref a => cases td.isp
        | scr ns => cases td.isp
        | fn x => cases td.isp
        | clo F ws cs => cases td.isp
        | tup es =>
          have e : isPtB (.tup es) = (decide ((es.length : Int) = 2) && es.all isNumB) := rfl
          try walk_at "dn"
          by_cases c : (es.length : Int) = 2
          · rw [decide_eq_true c, Bool.true_and] at e
            rw [if_neg (show ¬ (true = false) by decide), if_neg (fun h => h c)]
            try walk_at "dn"
            refine lc_filt (fun d => !isNumB d) (fun d hd Ky Kn hk2 => ?_) (td.ln es rfl) ?_
            · have tx := td.el d hd
              walk_at "dn"
              cases d with
              | ty n => cases tx.isp
              | ref a => cases tx.isp
              | scr ns => cases tx.isp
              | fn x => cases tx.isp
              | clo F ws cs => cases tx.isp
              | _ =>
                try walk_at "dn"
                exact hk2
            · try walk_at "dn"
              refine ⟨by decide, q_lstNil (td.sub fun d hd => (List.mem_filter.mp hd).1) ?_⟩
              rw [filt_none]
              cases c2 : es.all isNumB
              · rw [c2] at e
                try walk_at "dn"
                exact no e
              · rw [c2] at e
                try walk_at "dn"
                exact yes e _
          · rw [decide_eq_false c, Bool.false_and] at e
            rw [if_neg (show ¬ (true = false) by decide), if_pos c]
            exact no e
        | _ =>
          try walk_at "dn"
          exact no rfl
      · rintro ρ M' ⟨rfl, ⟨pre, e1, e2⟩, d1, d2, rfl⟩
        rw [List.append_nil] at e1
        subst e1
        rw [show isRgB (.tup ds) = true from e2] at k
        walk_at "dn"
        exact Rw.of k
    | _ =>
      walk_at "dn"
      exact Rw.of k
  · exact h.elim
def g__law_is_between : G := fun ds R E M => ∃ (p : Pt) (r : List Pt), ds = [ePt p, .tup (r.map ePt)] ∧ (PB 2000 p) ∧ (PBs r) ∧ (r.length ≤ 1000) ∧ (R (.bl (btw r p)) M)
abbrev n__law_is_between : List Str := ["point", "thing", "j"]
def tb__law_is_between : DTS :=
  (dSeq (dIfS (dOr (dTst (dOp (eqD id) (dVar 1) (dTup dNil))) (dTst (dOp (eqD fun k => !k) (dCall g__law_hand (dCons (dIx (dVar 1) (dC (.int 0))) (dCons (dIx (dVar 1) (dUn negD (dC (.int 1)))) (dCons (dVar 0) dNil)))) (dC (.int 0))))) (dRet (dC (.bl false))) dNext)
  (dSeq (dFor (dItems (dTup (dCons (dC (.int 0)) (dCons (dC (.int 1)) dNil)))) (.nm 2) (dIfS (dNot (dTst (dChain leD leD (dCB minD (dCons (dIx (dIx (dVar 1) (dC (.int 0))) (dVar 2)) (dCons (dIx (dIx (dVar 1) (dUn negD (dC (.int 1)))) (dVar 2)) dNil))) (dIx (dVar 0) (dVar 2)) (dCB maxD (dCons (dIx (dIx (dVar 1) (dC (.int 0))) (dVar 2)) (dCons (dIx (dIx (dVar 1) (dUn negD (dC (.int 1)))) (dVar 2)) dNil)))))) (dRet (dC (.bl false))) dNext))
  (dRet (dC (.bl true)))))
theorem l__law_is_between : ∀ ds R E M, g__law_is_between ds R E M → ds.length = 2 := by
  rintro ds R E M ⟨_, _, rfl, -⟩; rfl
theorem u__law_is_between {p : Pt} {r : List Pt} {R : PD} {E : Ex → MS → Prop} {M : MS} (hp : PB 2000 p) (hr : PBs r) (lr : r.length ≤ 1000) (k : R (.bl (btw r p)) M) : g__law_is_between [ePt p, .tup (r.map ePt)] R E M := ⟨_, _, rfl, hp, hr, lr, k⟩
theorem h__law_is_between : Hg g__law_is_between tb__law_is_between n__law_is_between := by
  rintro ds R E M ⟨p, r, rfl, hp, hr, lr, k⟩
  unfold tb__law_is_between
  walk_at "dn"
  refine ⟨Nat.zero_le _, eq_tnil hr lr ?_⟩
  cases r with
  | nil =>
    try walk_at "dn"
    exact Rw.of k
  | cons a t =>
    have ha := hr a (.head _)
    have hb := hr _ (lasP_mem (a := a) (t := t))
    have k2 : R (.bl (btB a (lasP (a :: t) a) p)) M := k
    simp only [List.isEmpty_cons, id, Bool.false_eq_true, if_false]
    try walk_at "dn"
    have i0 : ∀ (R : PD) (M : MS), R (ePt a) M → itD ((a :: t).map ePt) 0 R M := fun R M q => it_at (x := ePt a) 0 rfl rfl q
    have i1 : ∀ (R : PD) (M : MS), R (ePt (lasP (a :: t) a)) M → itD ((a :: t).map ePt) (-1) R M := fun R M q => lasP_it q
    refine i0 _ _ (i1 _ _ ?_)
    generalize lasP (a :: t) a = b at *
    refine u__law_hand ha hb hp ?_
    unfold btB at k2
    try walk_at "dn"
    by_cases c : hd a b p = 0
    · rw [decide_eq_true c, Bool.true_and] at k2
      rw [if_neg (fun h => h c)]
      refine ⟨by decide, ?_⟩
      unfold ePt at i0 i1 ⊢
      walk_at "dd"
      refine i0 _ _ ?_
      try walk_at "dd"
      refine i1 _ _ ?_
      try walk_at "dd"
      have no : ¬ ((if b.1 < a.1 then b.1 else a.1) ≤ p.1 ∧ p.1 ≤ (if b.1 > a.1 then b.1 else a.1)) ∨ ¬ ((if b.2 < a.2 then b.2 else a.2) ≤ p.2 ∧ p.2 ≤ (if b.2 > a.2 then b.2 else a.2)) → Rw R (.bl false) M := fun h => by
        rcases h with h | h
        · rw [decide_eq_false h, Bool.false_and] at k2
          exact Rw.of k2
        · rw [decide_eq_false h, Bool.and_false] at k2
          exact Rw.of k2
      by_cases c1 : (if b.1 < a.1 then b.1 else a.1) ≤ p.1
      · rw [if_pos c1]
        refine i0 _ _ ?_
        try walk_at "dd"
        refine i1 _ _ ?_
        try walk_at "dd"
        by_cases c2 : p.1 ≤ (if b.1 > a.1 then b.1 else a.1)
        · rw [if_neg (fun h => h c2)]
          refine i0 _ _ ?_
          try walk_at "dd"
          refine i1 _ _ ?_
          try walk_at "dd"
          by_cases c3 : (if b.2 < a.2 then b.2 else a.2) ≤ p.2
          · rw [if_pos c3]
            refine i0 _ _ ?_
            try walk_at "dd"
            refine i1 _ _ ?_
            try walk_at "dd"
            by_cases c4 : p.2 ≤ (if b.2 > a.2 then b.2 else a.2)
            · rw [if_neg (fun h => h c4)]
              try walk_at "dd"
              rw [decide_eq_true ⟨c1, c2⟩, decide_eq_true ⟨c3, c4⟩] at k2
              exact Rw.of k2
            · rw [if_pos c4]
              exact no (.inr fun h => c4 h.2)
          · rw [if_neg c3]
            try walk_at "dd"
            exact no (.inr fun h => c3 h.1)
        · rw [if_pos c2]
          exact no (.inl fun h => c2 h.2)
      · rw [if_neg c1]
        try walk_at "dd"
        exact no (.inl fun h => c1 h.1)
    · rw [decide_eq_false c] at k2
      rw [if_pos c]
      exact Rw.of k2
abbrev n__law_word : List Str := ["e", "sorts", "others"]
def tb__law_word (xC : Str) (xa xd : Addr) : DTS :=
  (dSeq (dSet 1 (dLst (dCons (dIsX xa xd (subX xC "NoPaper") 0) (dCons (dIsX xa xd (subX xC "NoCell") 0) dNil))))
  (dSeq (dSet 2 (dIsX xa xd ((["NoExact", "NoLayer", "NoName", "NoRatio", "NoRow", "NoSide", "NoStep", "NoText"] : List Str).any (subX xC)) 0))
  (dSeq (dIfS (dOr (dTru (dVar 2)) (dOr (dTst (dOp (eqD fun k => !k) (dMt cntD (dVar 1) (dCons (dC (.bl true)) dNil)) (dC (.int 1)))) (dTst (dOp (eqD id) (dIsX xa xd (subX xC "InkError") 0) (dIsX xa xd (subX xC "LostError") 0))))) (dRet (dTup (dCons (dC (.str "odd")) dNil))) dNext)
  (dSeq (dIfS (dOr (dTst (dOp (eqD fun k => !k) (dIsX xa xd (subX xC "InkError") 0) (dIx (dVar 1) (dC (.int 0))))) (dTst (dOp (eqD fun k => !k) (dIsX xa xd (subX xC "ValueError") 0) (dIx (dVar 1) (dC (.int 0)))))) (dRet (dTup (dCons (dC (.str "odd")) dNil))) dNext)
  (dSeq (dIfS (dOr (dTst (dOp (eqD id) (dIsX xa xd (subX xC "LookupError") 0) (dIx (dVar 1) (dC (.int 0))))) (dTru (dIsX xa xd (subX xC "ZeroDivisionError") 0))) (dRet (dTup (dCons (dC (.str "odd")) dNil))) dNext)
  (dRet (dIf (dTru (dIx (dVar 1) (dC (.int 0)))) (dTup (dCons (dFldX xa xd "word" (dVar 0)) (dCons (dFldX xa xd "at" (dVar 0)) dNil))) (dTup (dCons (dC (.str "cell")) (dCons (dFldX xa xd "cell" (dVar 0)) dNil))))))))))
theorem wP1 : subX "NoPaper" "NoPaper" = true := by decide +kernel
theorem wP2 : subX "NoPaper" "NoCell" = false := by decide +kernel
theorem wP3 : (["NoExact", "NoLayer", "NoName", "NoRatio", "NoRow", "NoSide", "NoStep", "NoText"] : List Str).any (subX "NoPaper") = false := by decide +kernel
theorem wP4 : subX "NoPaper" "InkError" = true := by decide +kernel
theorem wP5 : subX "NoPaper" "LostError" = false := by decide +kernel
theorem wP6 : subX "NoPaper" "ValueError" = true := by decide +kernel
theorem wP7 : subX "NoPaper" "LookupError" = false := by decide +kernel
theorem wP8 : subX "NoPaper" "ZeroDivisionError" = false := by decide +kernel
theorem word_ok {w d : D} {xa xd : Addr} {M : MS} {R : PD} (h : M xd = some (.xd [("at", d), ("word", w)])) (k : R (.tup [w, d]) M) : tb__law_word "NoPaper" xa xd (ends R fun _ _ => False) (startD n__law_word [.ref xa]) M := by
  unfold tb__law_word
  walk_at "dn"
  simp only [wP1, wP2, wP3, wP4, wP5, wP6, wP7, wP8]
  try walk_at "dn"
  refine ⟨⟨_, h⟩, ⟨_, h⟩, by decide, ⟨_, h⟩, [true, false], rfl, ?_⟩
  rw [if_neg (by decide)]
  refine ⟨⟨_, h⟩, ⟨_, h⟩, ?_⟩
  rw [if_neg (by decide)]
  refine ⟨⟨_, h⟩, ⟨_, h⟩, ⟨_, h⟩, ⟨_, h⟩, ?_⟩
  exact ⟨_, h, _, rfl, _, h, _, rfl, by decide, Rw.of k⟩
def resD : Option (Str × D) → D
  | none => .tup [.str "told", .bl true]
  | some (w, x) => .tup [.str w, x]
theorem cP : (subX "NoPaper" "InkError" || (subX "NoPaper" "LostError" || false)) = true := by decide +kernel
def g__law_said : G := fun ds R E M => ∃ (ps : List Pt) (d : D), ds = [.tup (ps.map ePt), d] ∧ (PBs ps) ∧ (ps.length ≤ 1000) ∧ (TT d) ∧ (∀ r, d = .tup (r.map ePt) → PBs r ∧ r.length ≤ 1000) ∧ (isRgB d = false → R (.tup [.str "shape", .int (-1)]) M) ∧ (∀ r, d = .tup (r.map ePt) → R (resD (verd ps r)) M) ∧ (True)
abbrev n__law_said : List Str := ["points", "thing", "found", "e"]
def tb__law_said : DTS :=
  (dSeq (dSet 2 (dTup (dCons (dC (.str "odd")) dNil)))
  (dSeq (dTry 3 excD (fun C => subX C "InkError" || (subX C "LostError" || (false))) (dSet 2 (dTup (dCons (dC (.str "told")) (dCons (dCall g_lets_hull (dCons (dVar 0) (dCons (dVar 1) dNil))) dNil)))) (fun xC xa xd => (dSet 2 (dCallX (gX (tb__law_word xC xa xd) n__law_word xa) (dCons (dVar 3) dNil)))))
  (dRet (dVar 2))))
theorem l__law_said : ∀ ds R E M, g__law_said ds R E M → ds.length = 2 := by
  rintro ds R E M ⟨_, _, rfl, -⟩; rfl
theorem u__law_said {ps : List Pt} {d : D} {R : PD} {E : Ex → MS → Prop} {M : MS} (hp : PBs ps) (lp : ps.length ≤ 1000) (td : TT d) (hr : ∀ r, d = .tup (r.map ePt) → PBs r ∧ r.length ≤ 1000) (h0 : isRgB d = false → R (.tup [.str "shape", .int (-1)]) M) (h1 : ∀ r, d = .tup (r.map ePt) → R (resD (verd ps r)) M) (k : True) : g__law_said [.tup (ps.map ePt), d] R E M := ⟨_, _, rfl, hp, lp, td, hr, h0, h1, k⟩
theorem h__law_said : Hg g__law_said tb__law_said n__law_said := by
  rintro ds R E M ⟨ps, d, rfl, hp, lp, td, hr, h0, h1, k⟩
  unfold tb__law_said
  walk_at "dn"
  refine ⟨by decide, ?_⟩
  have bad : ∀ w x, R (.tup [.str w, x]) M → (pap w x).C ∈ excD ∧ if (subX (pap w x).C "InkError" || (subX (pap w x).C "LostError" || false)) = true then ∀ (a dx : Addr), M a = none → M dx = none → a ≠ dx → tb__law_word (pap w x).C a dx (ends (fun d M1 => Rw R d M1) fun _ _ => False) (startD n__law_word [.ref a]) (um M dx (.xd (pap w x).fs)) else ∃ M', Le M' M ∧ E (pap w x) M' := fun w x q => by
    refine ⟨by unfold excD; exact List.mem_cons_self, ?_⟩
    show (if (subX "NoPaper" "InkError" || (subX "NoPaper" "LostError" || false)) = true then _ else _)
    rw [if_pos cP]
    intro e dx he hd ne
    exact word_ok um_same (Rw.le q (Le.um hd))
  refine u_lets_hull hp lp td hr (fun e => bad _ _ (h0 e)) (fun r e => ?_) trivial
  have q := h1 r e
  revert q
  cases verd ps r with
  | none => exact fun q => ⟨by decide, Rw.of q⟩
  | some z => exact fun q => bad _ _ q


def g__law_ought : G := fun ds R E M => ∃ (ps : List Pt) (d : D), ds = [.tup (ps.map ePt), d] ∧ (PBs ps) ∧ (ps.length ≤ 1000) ∧ (TT d) ∧ (∀ r, d = .tup (r.map ePt) → PBs r ∧ r.length ≤ 1000) ∧ (isRgB d = false → R (.tup [.str "shape", .int (-1)]) M) ∧ (∀ r, d = .tup (r.map ePt) → R (resD (verd ps r)) M) ∧ (True)
abbrev n__law_ought : List Str := ["points", "thing", "many", "k", "n", "point"]
def tb__law_ought_b3 : DTS :=
  (dIfS (dTst (dOp geD (dCall g__law_hand (dCons (dIx (dVar 1) (dVar 3)) (dCons (dIx (dVar 1) (dOp modD (dOp addD (dVar 3) (dC (.int 1))) (dVar 2))) (dCons (dIx (dVar 1) (dOp modD (dOp addD (dVar 3) (dC (.int 2))) (dVar 2))) dNil)))) (dC (.int 0)))) (dRet (dTup (dCons (dC (.str "turn")) (dCons (dVar 3) dNil)))) dNext)
def tb__law_ought_b4 : DTS :=
  (dFor (dRng1 (dCons (dCB lenD (dCons (dVar 0) dNil)) dNil)) (.nm 4) (dIfS (dTst (dOp gtD (dCall g__law_hand (dCons (dIx (dVar 1) (dVar 3)) (dCons (dIx (dVar 1) (dOp modD (dOp addD (dVar 3) (dC (.int 1))) (dVar 2))) (dCons (dIx (dVar 0) (dVar 4)) dNil)))) (dC (.int 0)))) (dRet (dTup (dCons (dC (.str "out")) (dCons (dTup (dCons (dVar 3) (dCons (dVar 4) dNil))) dNil)))) dNext))
def tb__law_ought_c6 : DTS :=
  (dSeq (dIfS (dAnd (dTst (dOp gtD (dVar 2) (dC (.int 0)))) (dTst (dOp (eqD fun k => !k) (dLc (dItems (dVar 0)) (.nm 5) (dTst (dOp ltTD (dVar 5) (dIx (dVar 1) (dC (.int 0))))) (dVar 5) [5]) (dLst dNil)))) (dRet (dTup (dCons (dC (.str "first")) (dCons (dUn negD (dC (.int 1))) dNil)))) dNext)
  (dRet (dTup (dCons (dC (.str "told")) (dCons (dC (.bl true)) dNil)))))
def tb__law_ought_c5_p (t_b4 : DTS) (t_c6 : DTS) : DTS :=
  (dSeq (dFor (dRng1 (dCons (dIf (dTst (dOp gtD (dVar 2) (dC (.int 2)))) (dVar 2) (dC (.int 0))) dNil)) (.nm 3) t_b4)
  t_c6)
def tb__law_ought_c5 : DTS := tb__law_ought_c5_p tb__law_ought_b4 tb__law_ought_c6
def tb__law_ought_c4_p (t_b3 : DTS) (t_c5 : DTS) : DTS :=
  (dSeq (dFor (dRng1 (dCons (dIf (dTst (dOp gtD (dVar 2) (dC (.int 2)))) (dVar 2) (dC (.int 0))) dNil)) (.nm 3) t_b3)
  t_c5)
def tb__law_ought_c4 : DTS := tb__law_ought_c4_p tb__law_ought_b3 tb__law_ought_c5
def tb__law_ought_c3_p (t_c4 : DTS) : DTS :=
  (dSeq (dIfS (dTst (dOp ltD (dVar 2) (dC (.int 3)))) (dFor (dRng1 (dCons (dCB lenD (dCons (dVar 0) dNil)) dNil)) (.nm 4) (dIfS (dNot (dTru (dCall g__law_is_between (dCons (dIx (dVar 0) (dVar 4)) (dCons (dVar 1) dNil))))) (dRet (dTup (dCons (dC (.str "few")) (dCons (dVar 4) dNil)))) dNext)) dNext)
  t_c4)
def tb__law_ought_c3 : DTS := tb__law_ought_c3_p tb__law_ought_c4
def tb__law_ought_c2_p (t_c3 : DTS) : DTS :=
  (dSeq (dFor (dRng1 (dCons (dVar 2) dNil)) (.nm 3) (dIfS (dOr (dTst (dOp notInTD (dIx (dVar 1) (dVar 3)) (dVar 0))) (dTst (dOp inTD (dIx (dVar 1) (dVar 3)) (dSl (dVar 1) dNoPart (dPart (dVar 3)))))) (dRet (dTup (dCons (dC (.str "corner")) (dCons (dVar 3) dNil)))) dNext))
  t_c3)
def tb__law_ought_c2 : DTS := tb__law_ought_c2_p tb__law_ought_c3
def tb__law_ought_p (t_c2 : DTS) : DTS :=
  (dSeq (dIfS (dNot (dTru (dCall g__law_is_ring (dCons (dVar 1) dNil)))) (dRet (dTup (dCons (dC (.str "shape")) (dCons (dUn negD (dC (.int 1))) dNil)))) dNext)
  (dSeq (dSet 2 (dCB lenD (dCons (dVar 1) dNil)))
  t_c2))
def tb__law_ought : DTS := tb__law_ought_p tb__law_ought_c2
theorem l__law_ought : ∀ ds R E M, g__law_ought ds R E M → ds.length = 2 := by
  rintro ds R E M ⟨_, _, rfl, -⟩; rfl
theorem u__law_ought {ps : List Pt} {d : D} {R : PD} {E : Ex → MS → Prop} {M : MS} (hp : PBs ps) (lp : ps.length ≤ 1000) (td : TT d) (hr : ∀ r, d = .tup (r.map ePt) → PBs r ∧ r.length ≤ 1000) (h0 : isRgB d = false → R (.tup [.str "shape", .int (-1)]) M) (h1 : ∀ r, d = .tup (r.map ePt) → R (resD (verd ps r)) M) (k : True) : g__law_ought [.tup (ps.map ePt), d] R E M := ⟨_, _, rfl, hp, lp, td, hr, h0, h1, k⟩
def v6 (ps r : List Pt) : Option (Str × D) := if badM ps r = true then some ("first", .int (-1)) else none
def v5 (ps r : List Pt) : Option (Str × D) := match (if r.length < 3 then none else fB2 r.length ps.length (badO ps r)) with
  | some (k, n) => some ("out", .tup [.int (k : Nat), .int (n : Nat)])
  | none => v6 ps r
def v4 (ps r : List Pt) : Option (Str × D) := match (if r.length < 3 then none else fB r.length (badT r)) with
  | some k => some ("turn", .int (k : Nat))
  | none => v5 ps r
def v3 (ps r : List Pt) : Option (Str × D) := match (if r.length < 3 then fB ps.length (badF ps r) else none) with
  | some k => some ("few", .int (k : Nat))
  | none => v4 ps r
theorem verd_v (ps r : List Pt) : verd ps r = match fB r.length (badC ps r) with | some k => some ("corner", .int (k : Nat)) | none => v3 ps r := by
  unfold verd
  cases fB r.length (badC ps r) with
  | some k => rfl
  | none =>
    unfold v3 v4 v5 v6 oMany
    by_cases c : r.length < 3
    · simp only [if_pos c]
      cases fB ps.length (badF ps r) <;> rfl
    · simp only [if_neg c]
      cases fB r.length (badT r) with
      | some k => rfl
      | none =>
        cases fB2 r.length ps.length (badO ps r) with
        | none => rfl
        | some z => rfl
def ltF (a : Pt) : D → Bool
  | .tup [.int x, .int y] => decide (ltP (x, y) a)
  | _ => false
theorem filt_ltF (a : Pt) (ps : List Pt) : (ps.map ePt).filter (ltF a) = (ps.filter fun p => decide (ltP p a)).map ePt := by
  rw [List.filter_map]; rfl
theorem lo_c6 {ps r : List Pt} {R : PD} {E : Ex → MS → Prop} {M : MS} {d3 d4 d5 : Option D} (hp : PBs ps) (lp : ps.length ≤ 1000) (hr : PBs r) (h : R (resD (v6 ps r)) M) :
    tb__law_ought_c6 (ends R E) [some (.tup (ps.map ePt)), some (.tup (r.map ePt)), some (.int r.length), d3, d4, d5] M := by
  unfold v6 at h
  unfold tb__law_ought_c6
  walk_at "dn"
  cases r with
  | nil =>
    rw [if_neg (show ¬ (badM ps [] = true) from Bool.false_ne_true)] at h
    rw [if_neg (by decide)]
    exact ⟨by decide, Rw.of h⟩
  | cons a t =>
    rw [if_pos (by simp only [List.length_cons]; omega)]
    have i0 : ∀ (R : PD) (M : MS), R (ePt a) M → itD ((a :: t).map ePt) 0 R M := fun R M q => it_at (x := ePt a) 0 rfl rfl q
    have e : badM ps (a :: t) = ps.any fun p => decide (ltP p a) := rfl
    refine lc_filt (ltF a) (fun d hd Ky Kn hk => ?_) (slz (by rw [List.length_map]; omega)) ?_
    · obtain ⟨p, hpp, rfl⟩ := List.mem_map.mp hd
      walk_at "dn"
      refine i0 _ _ ?_
      refine q_ltP ?_
      have e2 : ltF a (ePt p) = decide (ltP p a) := rfl
      rw [e2] at hk
      try walk_at "dn"
      cases c : decide (ltP p a)
      · rw [c] at hk
        have c' := of_decide_eq_false c
        try rw [if_neg c']
        exact hk
      · rw [c] at hk
        have c' := of_decide_eq_true c
        try rw [if_pos c']
        exact hk
    · try walk_at "dn"
      rw [filt_ltF]
      have hsub : okP (.lst ((ps.filter fun p => decide (ltP p a)).map ePt)) := (nice_pts (n := 59000) (fun p hpp => hp p (List.mem_filter.mp hpp).1) (by have := List.length_filter_le (fun p => decide (ltP p a)) ps; omega)).okP (by decide)
      refine ⟨by decide, q_lstNil hsub ?_⟩
      have e3 : (((ps.filter fun p => decide (ltP p a)).map ePt).isEmpty) = !badM ps (a :: t) := by
        rw [e]
        cases c : ps.any fun p => decide (ltP p a)
        · rw [List.any_eq_false] at c
          have : ps.filter (fun p => decide (ltP p a)) = [] := List.filter_eq_nil_iff.mpr c
          rw [this]; rfl
        · rw [List.any_eq_true] at c
          obtain ⟨x, hx, hx2⟩ := c
          cases q : ps.filter (fun p => decide (ltP p a)) with
          | nil =>
            have : x ∈ ps.filter (fun p => decide (ltP p a)) := List.mem_filter.mpr ⟨hx, hx2⟩
            rw [q] at this
            cases this
          | cons y l => rfl
      rw [e3]
      cases c : badM ps (a :: t)
      · rw [c, if_neg (by decide)] at h
        try walk_at "dn"
        exact ⟨by decide, Rw.of h⟩
      · rw [c, if_pos rfl] at h
        try walk_at "dn"
        exact ⟨by decide, Rw.of h⟩
theorem lo_b5 {ps r : List Pt} {k : Nat} {R : PD} {M : MS} {De : DEnds} {d4 d5 : Option D} (hp : PBs ps) (hr : PBs r) (lp : ps.length ≤ 1000) (hk : k < r.length) (hrt : De.rt = Rw R)
    (h : match fB ps.length (badO ps r k) with | none => ∀ d4, De.nx [some (.tup (ps.map ePt)), some (.tup (r.map ePt)), some (.int r.length), some (.int k), d4, d5] M | some n => R (.tup [.str "out", .tup [.int k, .int n]]) M) :
    tb__law_ought_b4 De [some (.tup (ps.map ePt)), some (.tup (r.map ePt)), some (.int r.length), some (.int k), d4, d5] M := by
  have h0 : 0 < r.length := by omega
  unfold tb__law_ought_b4
  walk_at "dn"
  rw [List.length_map]
  refine ⟨by omega, by omega, ?_⟩
  refine for_rngI (fun j ρ M' => M' = M ∧ (∀ i, i < j → badO ps r k i = false) ∧ ∃ d4, ρ = [some (.tup (ps.map ePt)), some (.tup (r.map ePt)), some (.int r.length), some (.int k), d4, d5]) ?_ ?_ ⟨rfl, fun i hi => absurd hi (Nat.not_lt_zero _), _, rfl⟩
  · rintro j hj ρ M' Kx ⟨rfl, hb, d4, rfl⟩ hkx
    have hj : j < ps.length := by omega
    have hx := List.getElem?_eq_getElem hj
    generalize ps[j] = x at hx
    have px := hp x (List.mem_of_getElem? hx)
    have eb : badO ps r k j = decide (0 < hd (rAt r k) (rAt r (k + 1)) x) := by unfold badO; rw [hx]
    have i0 : r[k]? = some (rAt r k) := by rw [rAt_lt (List.getElem?_eq_getElem hk), List.getElem?_eq_getElem hk]
    walk_at "dn"
    refine it_at (x := ePt (rAt r k)) k rfl (by rw [List.getElem?_map, i0]; rfl) ?_
    refine ⟨by omega, ?_⟩
    refine it_rAt (c := 1) h0 ?_
    refine it_at (x := ePt x) j rfl (by rw [List.getElem?_map, hx]; rfl) ?_
    refine u__law_hand (hr _ (rAt_mem h0 _)) (hr _ (rAt_mem h0 _)) px ?_
    try walk_at "dn"
    by_cases c : 0 < hd (rAt r k) (rAt r (k + 1)) x
    · rw [if_pos c]
      rw [decide_eq_true c] at eb
      rw [fB_some hj hb eb] at h
      refine ⟨by decide, by decide, ?_⟩
      rw [hrt]
      exact Rw.of h
    · rw [if_neg c]
      rw [decide_eq_false c] at eb
      exact hkx _ _ ⟨rfl, fun i hi => by
        by_cases e : i = j
        · rw [e]; exact eb
        · exact hb i (by omega), _, rfl⟩
  · rintro ρ M' ⟨rfl, hb, d4, rfl⟩
    rw [fB_none fun i hi => hb i (by omega)] at h
    exact h _
theorem rg_len {r : List Pt} : (if (2 : Int) < (r.length : Int) then (r.length : Int) else 0).toNat = if r.length < 3 then 0 else r.length := by
  split <;> split <;> omega
theorem lo_c5 {ps r : List Pt} {R : PD} {E : Ex → MS → Prop} {M : MS} {tc : DTS} {d3 d4 d5 : Option D} (hp : PBs ps) (lp : ps.length ≤ 1000) (hr : PBs r) (lr : r.length ≤ 1000)
    (k : ∀ d3 d4, R (resD (v6 ps r)) M → tc (ends R E) [some (.tup (ps.map ePt)), some (.tup (r.map ePt)), some (.int r.length), d3, d4, d5] M) (h : R (resD (v5 ps r)) M) :
    tb__law_ought_c5_p tb__law_ought_b4 tc (ends R E) [some (.tup (ps.map ePt)), some (.tup (r.map ePt)), some (.int r.length), d3, d4, d5] M := by
  have stp := fun (De : DEnds) (M : MS) (k : Nat) d4 (hk : k < r.length) => lo_b5 (R := R) (De := De) (M := M) (k := k) (d4 := d4) (d5 := d5) hp hr lp hk
  generalize tb__law_ought_b4 = tb at stp ⊢
  unfold tb__law_ought_c5_p
  unfold v5 at h
  walk_at "dn"
  have key : ∀ n : Nat, n ≤ r.length → (∀ j, (∀ i, i < j → fB ps.length (badO ps r i) = none) → j = n → R (resD (v6 ps r)) M) → (∀ j n', j < n → (∀ i, i < j → fB ps.length (badO ps r i) = none) → fB ps.length (badO ps r j) = some n' → R (.tup [.str "out", .tup [.int (j : Nat), .int (n' : Nat)]]) M) →
      forW (.nm 3) tb { nx := tc (ends R E), rt := Rw R, ex := fun x _ M => ∃ M', Le M' M ∧ E x M' } (rng 0 n) [some (.tup (ps.map ePt)), some (.tup (r.map ePt)), some (.int r.length), d3, d4, d5] M := fun n hn hfin hbad => by
    refine for_rngI (fun j ρ M' => M' = M ∧ (∀ i, i < j → fB ps.length (badO ps r i) = none) ∧ ∃ d3 d4, ρ = [some (.tup (ps.map ePt)), some (.tup (r.map ePt)), some (.int r.length), d3, d4, d5]) ?_ ?_ ⟨rfl, fun i hi => absurd hi (Nat.not_lt_zero _), _, _, rfl⟩
    · rintro j hj ρ M' Kx ⟨rfl, hb, d3, d4, rfl⟩ hkx
      walk_at "dn"
      refine stp _ _ j _ (by omega) rfl ?_
      cases e : fB ps.length (badO ps r j) with
      | none =>
        exact fun d4 => hkx _ _ ⟨rfl, fun i hi => by
          by_cases e2 : i = j
          · rw [e2]; exact e
          · exact hb i (by omega), _, _, rfl⟩
      | some n' => exact hbad j n' hj hb e
    · rintro ρ M' ⟨rfl, hb, d3, d4, rfl⟩
      exact k _ _ (hfin n hb rfl)
  by_cases c : r.length < 3
  · rw [if_neg (by omega)]
    rw [if_pos c] at h
    exact ⟨by decide, by decide, key 0 (Nat.zero_le _) (fun j hb e => h) fun j n' hj => absurd hj (Nat.not_lt_zero _)⟩
  · rw [if_pos (by omega)]
    rw [if_neg c] at h
    refine ⟨by omega, by omega, key r.length (Nat.le_refl _) (fun j hb e => ?_) fun j n' hj hb e => ?_⟩
    · subst e
      rw [fB2_none hb] at h
      exact h
    · rw [fB2_some hj hb e] at h
      exact h
theorem lo_b3 {r : List Pt} {j : Nat} {R : PD} {M : MS} {De : DEnds} {d0 d4 d5 : Option D} (hr : PBs r) (hj2 : j < r.length) (hrt : De.rt = Rw R)
    (h : if badT r j = true then R (.tup [.str "turn", .int (j : Nat)]) M else De.nx [d0, some (.tup (r.map ePt)), some (.int r.length), some (.int j), d4, d5] M) :
    tb__law_ought_b3 De [d0, some (.tup (r.map ePt)), some (.int r.length), some (.int j), d4, d5] M := by
  have h0 : 0 < r.length := by omega
  have i0 : r[j]? = some (rAt r j) := by rw [rAt_lt (List.getElem?_eq_getElem hj2), List.getElem?_eq_getElem hj2]
  have eb : badT r j = decide (0 ≤ hd (rAt r j) (rAt r (j + 1)) (rAt r (j + 2))) := rfl
  unfold tb__law_ought_b3
  walk_at "dn"
  refine it_at (x := ePt (rAt r j)) j rfl (by rw [List.getElem?_map, i0]; rfl) ?_
  refine ⟨by omega, ?_⟩
  refine it_rAt (c := 1) h0 ?_
  refine ⟨by omega, ?_⟩
  refine it_rAt (c := 2) h0 ?_
  refine u__law_hand (hr _ (rAt_mem h0 _)) (hr _ (rAt_mem h0 _)) (hr _ (rAt_mem h0 _)) ?_
  try walk_at "dn"
  by_cases c : 0 ≤ hd (rAt r j) (rAt r (j + 1)) (rAt r (j + 2))
  · rw [if_pos c]
    rw [eb, decide_eq_true c, if_pos rfl] at h
    refine ⟨by decide, ?_⟩
    rw [hrt]
    exact Rw.of h
  · rw [if_neg c]
    rw [eb, decide_eq_false c, if_neg (by decide)] at h
    exact h
theorem lo_c4 {ps r : List Pt} {R : PD} {E : Ex → MS → Prop} {M : MS} {tc : DTS} {d3 d4 d5 : Option D} (hr : PBs r) (lr : r.length ≤ 1000)
    (k : ∀ d3, R (resD (v5 ps r)) M → tc (ends R E) [some (.tup (ps.map ePt)), some (.tup (r.map ePt)), some (.int r.length), d3, d4, d5] M) (h : R (resD (v4 ps r)) M) :
    tb__law_ought_c4_p tb__law_ought_b3 tc (ends R E) [some (.tup (ps.map ePt)), some (.tup (r.map ePt)), some (.int r.length), d3, d4, d5] M := by
  have stp := fun (De : DEnds) (M : MS) (j : Nat) (hj : j < r.length) => lo_b3 (R := R) (De := De) (M := M) (j := j) (d0 := some (.tup (ps.map ePt))) (d4 := d4) (d5 := d5) hr hj
  generalize tb__law_ought_b3 = tb at stp ⊢
  unfold tb__law_ought_c4_p
  unfold v4 at h
  walk_at "dn"
  have key : ∀ n : Nat, n ≤ r.length → ((∀ i, i < n → badT r i = false) → R (resD (v5 ps r)) M) → (∀ j, j < n → (∀ i, i < j → badT r i = false) → badT r j = true → R (.tup [.str "turn", .int (j : Nat)]) M) →
      forW (.nm 3) tb { nx := tc (ends R E), rt := Rw R, ex := fun x _ M => ∃ M', Le M' M ∧ E x M' } (rng 0 n) [some (.tup (ps.map ePt)), some (.tup (r.map ePt)), some (.int r.length), d3, d4, d5] M := fun n hn hfin hbad => by
    refine for_rngI (fun j ρ M' => M' = M ∧ (∀ i, i < j → badT r i = false) ∧ ∃ d3, ρ = [some (.tup (ps.map ePt)), some (.tup (r.map ePt)), some (.int r.length), d3, d4, d5]) ?_ ?_ ⟨rfl, fun i hi => absurd hi (Nat.not_lt_zero _), _, rfl⟩
    · rintro j hj ρ M' Kx ⟨rfl, hb, d3, rfl⟩ hkx
      walk_at "dn"
      refine stp _ _ j (by omega) rfl ?_
      cases e : badT r j
      · rw [if_neg (by decide)]
        exact hkx _ _ ⟨rfl, fun i hi => by
          by_cases e2 : i = j
          · rw [e2]; exact e
          · exact hb i (by omega), _, rfl⟩
      · rw [if_pos rfl]
        exact hbad j hj hb e
    · rintro ρ M' ⟨rfl, hb, d3, rfl⟩
      exact k _ (hfin hb)
  by_cases c : r.length < 3
  · rw [if_neg (by omega)]
    rw [if_pos c] at h
    exact ⟨by decide, by decide, key 0 (Nat.zero_le _) (fun hb => h) (fun j hj => absurd hj (Nat.not_lt_zero _))⟩
  · rw [if_pos (by omega)]
    rw [if_neg c] at h
    refine ⟨by omega, by omega, key r.length (Nat.le_refl _) (fun hb => ?_) (fun j hj hb e => ?_)⟩
    · rw [fB_none hb] at h
      exact h
    · rw [fB_some hj hb e] at h
      exact h
theorem lo_c3 {ps r : List Pt} {R : PD} {E : Ex → MS → Prop} {M : MS} {tc : DTS} {d3 d4 d5 : Option D} (hp : PBs ps) (lp : ps.length ≤ 1000) (hr : PBs r) (lr : r.length ≤ 1000)
    (k : ∀ d4, R (resD (v4 ps r)) M → tc (ends R E) [some (.tup (ps.map ePt)), some (.tup (r.map ePt)), some (.int r.length), d3, d4, d5] M) (h : R (resD (v3 ps r)) M) :
    tb__law_ought_c3_p tc (ends R E) [some (.tup (ps.map ePt)), some (.tup (r.map ePt)), some (.int r.length), d3, d4, d5] M := by
  unfold tb__law_ought_c3_p
  unfold v3 at h
  walk_at "dn"
  by_cases c : r.length < 3
  · rw [if_pos (by omega)]
    rw [if_pos c] at h
    rw [List.length_map]
    refine ⟨by omega, by omega, ?_⟩
    refine for_rngI (fun j ρ M' => M' = M ∧ (∀ i, i < j → badF ps r i = false) ∧ ∃ d4, ρ = [some (.tup (ps.map ePt)), some (.tup (r.map ePt)), some (.int r.length), d3, d4, d5]) ?_ ?_ ⟨rfl, fun i hi => absurd hi (Nat.not_lt_zero _), _, rfl⟩
    · rintro j hj ρ M' Kx ⟨rfl, hb, d4, rfl⟩ hkx
      have hj : j < ps.length := by omega
      have hx := List.getElem?_eq_getElem hj
      generalize ps[j] = x at hx
      have px := hp x (List.mem_of_getElem? hx)
      have eb : badF ps r j = !btw r x := by unfold badF; rw [hx]
      walk_at "dn"
      refine it_at (x := ePt x) j rfl (by rw [List.getElem?_map, hx]; rfl) ?_
      refine u__law_is_between px hr lr ?_
      cases c1 : btw r x
      · rw [c1] at eb
        try walk_at "dn"
        rw [fB_some hj hb eb] at h
        exact ⟨by decide, Rw.of h⟩
      · rw [c1] at eb
        try walk_at "dn"
        exact hkx _ _ ⟨rfl, fun i hi => by
          by_cases e : i = j
          · rw [e]; exact eb
          · exact hb i (by omega), _, rfl⟩
    · rintro ρ M' ⟨rfl, hb, d4, rfl⟩
      rw [fB_none fun i hi => hb i (by omega)] at h
      exact k _ h
  · rw [if_neg (by omega)]
    rw [if_neg c] at h
    exact k _ h
theorem lo_c2 {ps r : List Pt} {R : PD} {E : Ex → MS → Prop} {M : MS} {tc : DTS} {d3 d4 d5 : Option D} (hp : PBs ps) (lp : ps.length ≤ 1000) (hr : PBs r) (lr : r.length ≤ 1000)
    (k : ∀ d3, R (resD (v3 ps r)) M → tc (ends R E) [some (.tup (ps.map ePt)), some (.tup (r.map ePt)), some (.int r.length), d3, d4, d5] M) (h : R (resD (verd ps r)) M) :
    tb__law_ought_c2_p tc (ends R E) [some (.tup (ps.map ePt)), some (.tup (r.map ePt)), some (.int r.length), d3, d4, d5] M := by
  unfold tb__law_ought_c2_p
  rw [verd_v] at h
  walk_at "dn"
  refine ⟨by omega, by omega, ?_⟩
  refine for_rngI (fun j ρ M' => M' = M ∧ (∀ i, i < j → badC ps r i = false) ∧ ∃ d3, ρ = [some (.tup (ps.map ePt)), some (.tup (r.map ePt)), some (.int r.length), d3, d4, d5]) ?_ ?_ ⟨rfl, fun i hi => absurd hi (Nat.not_lt_zero _), _, rfl⟩
  · rintro j hj ρ M' Kx ⟨rfl, hb, d3, rfl⟩ hkx
    have hj : j < r.length := by omega
    have hx := List.getElem?_eq_getElem hj
    generalize r[j] = x at hx
    have px := hr x (List.mem_of_getElem? hx)
    have eb : badC ps r j = (!decide (x ∈ ps) || decide (x ∈ r.take j)) := by unfold badC; rw [hx]
    have it : ∀ (R : PD), R (ePt x) M' → itD (r.map ePt) (j : Int) R M' := fun R q => it_at (x := ePt x) j rfl (by rw [List.getElem?_map, hx]; rfl) q
    have yes : badC ps r j = true → 0 + 1 + 1 ≤ sizeLine ∧ Rw R (.tup [.str "corner", .int j]) M' := fun hbj => by
      rw [fB_some hj hb hbj] at h
      exact ⟨by decide, Rw.of h⟩
    have no : badC ps r j = false → Kx [some (.tup (ps.map ePt)), some (.tup (r.map ePt)), some (.int r.length), some (.int j), d4, d5] M' := fun hbj => hkx _ _ ⟨rfl, fun i hi => by
      by_cases e : i = j
      · rw [e]; exact hbj
      · exact hb i (by omega), _, rfl⟩
    walk_at "dn"
    refine it _ ?_
    refine in_pts px hp lp ?_
    cases c1 : decide (x ∈ ps)
    · rw [c1] at eb
      simp only [Bool.not_false, if_true]
      exact yes (by rw [eb]; rfl)
    · rw [c1] at eb
      simp only [Bool.not_true, Bool.false_eq_true, if_false]
      refine it _ ?_
      rw [cut_take, ← List.map_take]
      refine in_pts px (fun q hq => hr q (List.mem_of_mem_take hq)) (by rw [List.length_take]; omega) ?_
      cases c2 : decide (x ∈ r.take j)
      · rw [c2] at eb
        simp only [id, Bool.false_eq_true, if_false]
        exact no (by rw [eb]; rfl)
      · rw [c2] at eb
        simp only [id, if_true]
        exact yes (by rw [eb]; rfl)
  · rintro ρ M' ⟨rfl, hb, d3, rfl⟩
    rw [fB_none fun i hi => hb i (by omega)] at h
    exact k _ h
theorem h__law_ought : Hg g__law_ought tb__law_ought n__law_ought := by
  rintro ds R E M ⟨ps, d, rfl, hp, lp, td, hr, h0, h1, k⟩
  unfold tb__law_ought
  have fin : ∀ r, PBs r → r.length ≤ 1000 → R (resD (verd ps r)) M → tb__law_ought_c2 (ends R E) [some (.tup (ps.map ePt)), some (.tup (r.map ePt)), some (.int r.length), none, none, none] M := fun r hr lr h => by
    refine lo_c2 (tc := tb__law_ought_c3) hp lp hr lr (fun d3 h => ?_) h
    refine lo_c3 (tc := tb__law_ought_c4) hp lp hr lr (fun d4 h => ?_) h
    refine lo_c4 (tc := tb__law_ought_c5) hr lr (fun d3 h => ?_) h
    refine lo_c5 (tc := tb__law_ought_c6) hp lp hr lr (fun d3 d4 h => ?_) h
    exact lo_c6 hp lp hr h
  generalize tb__law_ought_c2 = tc at fin ⊢
  unfold tb__law_ought_p
  walk_at "dn"
  refine useTT td ?_
  try walk_at "dn"
  cases e : isRgB d with
  | false =>
    try walk_at "dn"
    exact ⟨by decide, Rw.of (h0 e)⟩
  | true =>
    obtain ⟨r, rfl⟩ := rg_ring e
    obtain ⟨hr1, lr⟩ := hr r rfl
    try walk_at "dn"
    rw [if_neg (by decide), List.length_map]
    exact fin r hr1 lr (h1 r rfl)

/-! k56: things spoilt *)-/


theorem perm_map_inv {α : Type} {f : α → D} {es es' : List D} (h : es'.Perm es) : ∀ {ps : List α}, es = ps.map f → ∃ qs : List α, es' = qs.map f ∧ qs.Perm ps := by
  have h' := h.symm
  clear h
  induction h' with
  | nil =>
    intro ps e
    cases ps with
    | nil => exact ⟨[], rfl, .refl _⟩
    | cons a ps => cases e
  | cons x p ih =>
    intro ps e
    cases ps with
    | nil => cases e
    | cons a ps =>
      cases e
      obtain ⟨qs, e1, p1⟩ := ih rfl
      exact ⟨a :: qs, by rw [e1]; rfl, p1.cons _⟩
  | swap x y l =>
    intro ps e
    cases ps with
    | nil => cases e
    | cons a ps =>
      cases ps with
      | nil => cases e
      | cons b ps =>
        cases e
        exact ⟨b :: a :: ps, rfl, .swap ..⟩
  | trans _ _ ih1 ih2 =>
    intro ps e
    obtain ⟨q1, e1, p1⟩ := ih1 e
    obtain ⟨q2, e2, p2⟩ := ih2 e1
    exact ⟨q2, e2, p2.trans p1⟩
theorem q_sorTP {ps : List Pt} {R : PD} {M : MS} (k : ∀ qs : List Pt, qs.Perm ps → R (.lst (qs.map ePt)) M) : sorTPD [.tup (ps.map ePt)] R M := by
  refine ⟨fun e he => ?_, fun es' hp => ?_⟩
  · obtain ⟨p, _, rfl⟩ := List.mem_map.mp he
    exact ⟨_, _, rfl⟩
  · obtain ⟨qs, rfl, p⟩ := perm_map_inv hp rfl
    exact k qs p
/-- what is judged: small, of few points where it is a ring *)-/
structure Thg (B : Int) (n : Nat) (ne : Prop) (d : D) : Prop where
  nice : Nice 60 4 100000 d
  ring : ∀ r, d = .tup (r.map ePt) → (∀ p, p ∈ r → PB B p) ∧ r.length ≤ n ∧ (r ≠ [] → ne)
theorem pt60 {p : Pt} (h : PB 2000 p) : Nice 60 1 500 (ePt p) := by
  obtain ⟨⟨a, b⟩, c, d⟩ := h
  refine nice_tup (n := 240) (fun d hd => ?_) (by show (240 + 1) * 2 ≤ 500; decide)
  simp only [List.mem_cons, List.not_mem_nil, or_false] at hd
  have up : ∀ x : Int, -2000 ≤ x → x ≤ 2000 → x.natAbs < 10 ^ 60 := fun x h1 h2 => Nat.lt_of_lt_of_le (show x.natAbs < 10 ^ 4 by omega) (by decide)
  rcases hd with rfl | rfl
  · exact nice_int (by decide) (by decide) (up _ a b)
  · exact nice_int (by decide) (by decide) (up _ c d)
theorem ring60 {r : List Pt} (h : PBs r) (hl : r.length ≤ 100) : Nice 60 2 60000 (.tup (r.map ePt)) := nice_tup (n := 500) (fun d hd => by
  obtain ⟨p, hp, rfl⟩ := List.mem_map.mp hd
  exact pt60 (h p hp)) (by rw [List.length_map]; omega)
theorem lring60 {r : List Pt} (h : PBs r) (hl : r.length ≤ 100) : Nice 60 2 60000 (.lst (r.map ePt)) := nice_lst (n := 500) (fun d hd => by
  obtain ⟨p, hp, rfl⟩ := List.mem_map.mp hd
  exact pt60 (h p hp)) (by rw [List.length_map]; omega)
theorem map_inj {r r' : List Pt} (h : r.map ePt = r'.map ePt) : r = r' := by
  induction r generalizing r' with
  | nil =>
    cases r' with
    | nil => rfl
    | cons a r' => cases h
  | cons a r ih =>
    cases r' with
    | nil => cases h
    | cons b r' =>
      injection h with h1 h2
      have : a = b := by
        obtain ⟨a1, a2⟩ := a
        obtain ⟨b1, b2⟩ := b
        unfold ePt at h1
        simp only [D.tup.injEq, List.cons.injEq, D.int.injEq, and_true] at h1
        rw [h1.1, h1.2]
      rw [this, ih h2]
theorem thg_ring {B : Int} {n : Nat} {ne : Prop} {r : List Pt} (hB : B ≤ 2000) (hn : n ≤ 100) (h : ∀ p, p ∈ r → PB B p) (hl : r.length ≤ n) (hne : r ≠ [] → ne) : Thg B n ne (.tup (r.map ePt)) :=
  ⟨(ring60 (fun p hp => (h p hp).mono hB) (by omega)).up (by decide) (by decide), fun r' e => by
    have := map_inj (D.tup.inj e)
    subst this
    exact ⟨h, hl, hne⟩⟩
theorem thg_odd {B : Int} {n : Nat} {ne : Prop} {d : D} (h : Nice 60 4 100000 d) (hr : ∀ r : List Pt, r ≠ [] → d ≠ .tup (r.map ePt)) (hB : True) : Thg B n ne d :=
  ⟨h, fun r e => by
    cases r with
    | nil => exact ⟨fun p hp => (List.not_mem_nil hp).elim, Nat.zero_le _, fun h => absurd rfl h⟩
    | cons a r => exact absurd e (hr _ (by simp))⟩

def g__law_spoilt : G := fun ds R E M => ∃ (a : Addr) (ps r : List Pt) (w : Int) (b : Nat) (B : Int) (n : Nat) (ne : Prop), ds = [.ref a, .tup (ps.map ePt), .tup (r.map ePt), .int w] ∧ (Feed M a (b + 3)) ∧ (0 ≤ w ∧ w ≤ 12) ∧ (0 ≤ B ∧ B < 2000) ∧ (n < 50) ∧ (∀ p, p ∈ ps → PB B p) ∧ (∀ p, p ∈ r → PB B p) ∧ (ps.length ≤ n) ∧ (r.length ≤ n) ∧ (ne ↔ ps ≠ []) ∧ (r ≠ [] → ps ≠ []) ∧ (∀ d o, Thg (B + 1) (2 * n + 2) ne d → FdO o b → R d (um M a o))
abbrev n__law_spoilt : List Str := ["feed", "points", "ring", "way", "odd", "some", "k", "point"]
def tb__law_spoilt_c7 : DTS :=
  (dSeq (dIfS (dTst (dOp (eqD id) (dVar 3) (dC (.int 5)))) (dRet (dOp addD (dSl (dVar 2) (dPart (dVar 6)) dNoPart) (dSl (dVar 2) dNoPart (dPart (dVar 6))))) dNext)
  (dSeq (dSet 5 (dLstN (dCons (dRev (dVar 2)) (dCons (dOp addD (dPick none 2 (dVar 2)) (dPick (some 1) 2 (dVar 2))) (dCons (dCB lstD (dCons (dVar 2) dNil)) (dCons (dCB tupD (dCons (dVar 1) dNil)) (dCons (dCB tupD (dCons (dCB sorTPD (dCons (dVar 2) dNil)) dNil)) dNil)))))))
  (dSeq (dExpr (dMt appD (dVar 5) (dCons (dOp addD (dOp addD (dSl (dVar 2) dNoPart (dPart (dVar 6))) (dTup (dCons (dCB lstD (dCons (dIx (dVar 2) (dVar 6)) dNil)) dNil))) (dSl (dVar 2) (dPart (dOp addD (dVar 6) (dC (.int 1)))) dNoPart)) dNil)))
  (dSeq (dExpr (dMt appD (dVar 5) (dCons (dOp addD (dOp addD (dSl (dVar 2) dNoPart (dPart (dVar 6))) (dTup (dCons (dTup (dCons (dOp addD (dIx (dIx (dVar 2) (dVar 6)) (dC (.int 0))) (dC (.int 1))) (dCons (dIx (dIx (dVar 2) (dVar 6)) (dC (.int 1))) dNil))) dNil))) (dSl (dVar 2) (dPart (dOp addD (dVar 6) (dC (.int 1)))) dNoPart)) dNil)))
  (dRet (dIx (dVar 5) (dOp subD (dVar 3) (dC (.int 6)))))))))
def tb__law_spoilt_c6_p (t_c7 : DTS) : DTS :=
  (dSeq (dIfS (dTst (dOp (eqD id) (dVar 3) (dC (.int 4)))) (dRet (dOp addD (dOp addD (dSl (dVar 2) dNoPart (dPart (dVar 6))) (dTup (dCons (dVar 7) dNil))) (dSl (dVar 2) (dPart (dVar 6)) dNoPart))) dNext)
  t_c7)
def tb__law_spoilt_c6 : DTS := tb__law_spoilt_c6_p tb__law_spoilt_c7
def tb__law_spoilt_c5_p (t_c6 : DTS) : DTS :=
  (dSeq (dIfS (dTst (dOp (eqD id) (dVar 3) (dC (.int 3)))) (dRet (dOp addD (dOp addD (dSl (dVar 2) dNoPart (dPart (dVar 6))) (dTup (dCons (dVar 7) dNil))) (dSl (dVar 2) (dPart (dOp addD (dVar 6) (dC (.int 1)))) dNoPart))) dNext)
  t_c6)
def tb__law_spoilt_c5 : DTS := tb__law_spoilt_c5_p tb__law_spoilt_c6
def tb__law_spoilt_c4_p (t_c5 : DTS) : DTS :=
  (dSeq (dIfS (dTst (dOp (eqD id) (dVar 3) (dC (.int 2)))) (dRet (dOp addD (dOp addD (dSl (dVar 2) dNoPart (dPart (dVar 6))) (dSl (dVar 2) (dPart (dVar 6)) (dPart (dOp addD (dVar 6) (dC (.int 1)))))) (dSl (dVar 2) (dPart (dVar 6)) dNoPart))) dNext)
  t_c5)
def tb__law_spoilt_c4 : DTS := tb__law_spoilt_c4_p tb__law_spoilt_c5
def tb__law_spoilt_c3_p (t_c4 : DTS) : DTS :=
  (dSeq (dIfS (dTst (dOp (eqD id) (dVar 3) (dC (.int 1)))) (dRet (dOp addD (dSl (dVar 2) dNoPart (dPart (dVar 6))) (dSl (dVar 2) (dPart (dOp addD (dVar 6) (dC (.int 1)))) dNoPart))) dNext)
  t_c4)
def tb__law_spoilt_c3 : DTS := tb__law_spoilt_c3_p tb__law_spoilt_c4
def tb__law_spoilt_c2_p (t_c3 : DTS) : DTS :=
  (dSeq (dPar 6 7 (dCons (dCall g__law_draw (dCons (dVar 0) (dCons (dCB lenD (dCons (dVar 2) dNil)) dNil))) (dCons (dIx (dVar 1) (dCall g__law_draw (dCons (dVar 0) (dCons (dCB lenD (dCons (dVar 1) dNil)) dNil)))) dNil)))
  t_c3)
def tb__law_spoilt_c2 : DTS := tb__law_spoilt_c2_p tb__law_spoilt_c3
def tb__law_spoilt_c1_p (t_c2 : DTS) : DTS :=
  (dSeq (dIfS (dOr (dTst (dOp (eqD id) (dVar 2) (dTup dNil))) (dTst (dOp (eqD id) (dVar 3) (dC (.int 0))))) (dRet (dIx (dVar 4) (dCall g__law_draw (dCons (dVar 0) (dCons (dC (.int 9)) dNil))))) dNext)
  t_c2)
def tb__law_spoilt_c1 : DTS := tb__law_spoilt_c1_p tb__law_spoilt_c2
def tb__law_spoilt_p (t_c1 : DTS) : DTS :=
  (dSeq (dSet 4 (dLst (dCons (dC .non) (dCons (dTup dNil) (dCons (dTup (dCons (dTup dNil) dNil)) (dCons (dLst (dCons (dCB lstD (dCons (dVar 2) dNil)) dNil)) (dCons (dC (.str "ring")) (dCons (dTup (dCons (dTup (dCons (dC (.str "1")) (dCons (dC (.int 2)) dNil))) dNil)) (dCons (dTup (dCons (dTup (dCons (dC (.bl true)) (dCons (dC (.int 0)) dNil))) dNil)) (dCons (dTup (dCons (dTup (dCons (dC (.int 0)) (dCons (dC (.int 0)) (dCons (dC (.int 0)) dNil)))) dNil)) (dCons (dC (.int 7)) dNil)))))))))))
  t_c1)
def tb__law_spoilt : DTS := tb__law_spoilt_p tb__law_spoilt_c1
theorem l__law_spoilt : ∀ ds R E M, g__law_spoilt ds R E M → ds.length = 4 := by
  rintro ds R E M ⟨_, _, _, _, _, _, _, _, rfl, -⟩; rfl
theorem u__law_spoilt {a : Addr} {ps r : List Pt} {w : Int} {b : Nat} {B : Int} {n : Nat} {ne : Prop} {R : PD} {E : Ex → MS → Prop} {M : MS} (hf : Feed M a (b + 3)) (hw : 0 ≤ w ∧ w ≤ 12) (hB : 0 ≤ B ∧ B < 2000) (hn : n < 50) (hps : ∀ p, p ∈ ps → PB B p) (hr : ∀ p, p ∈ r → PB B p) (lp : ps.length ≤ n) (lr : r.length ≤ n) (hne : ne ↔ ps ≠ []) (hrn : r ≠ [] → ps ≠ []) (k : ∀ d o, Thg (B + 1) (2 * n + 2) ne d → FdO o b → R d (um M a o)) : g__law_spoilt [.ref a, .tup (ps.map ePt), .tup (r.map ePt), .int w] R E M := ⟨_, _, _, _, _, _, _, _, rfl, hf, hw, hB, hn, hps, hr, lp, lr, hne, hrn, k⟩
theorem odd_not {a : Pt} {r : List Pt} {ds : List D} (h : ∀ x xs, ds = x :: xs → x ≠ ePt a) : D.tup ds ≠ .tup ((a :: r).map ePt) := fun e => by
  cases ds with
  | nil => cases e
  | cons x xs =>
    injection e with e
    injection e with e1 e2
    exact h x xs rfl e1
theorem triple_not {r : List Pt} (h : r ≠ []) : D.tup [.tup [.int 0, .int 0, .int 0]] ≠ .tup (r.map ePt) := by
  cases r with
  | nil => exact absurd rfl h
  | cons a r =>
    refine odd_not fun x xs e => ?_
    cases e
    intro e
    have := congrArg (fun d => match d with | D.tup l => l.length | _ => 0) e
    simp [ePt] at this
theorem sp_c1 {a : Addr} {ps r : List Pt} {w : Int} {b : Nat} {B : Int} {n : Nat} {ne : Prop} {tc : DTS} {R : PD} {E : Ex → MS → Prop} {M : MS} {d5 d6 d7 : Option D} (hf : Feed M a (b + 3)) (hr : PBs r) (lr : r.length ≤ 50)
    (k : ∀ d o, Thg (B + 1) (2 * n + 2) ne d → FdO o b → R d (um M a o))
    (kc : r ≠ [] → w ≠ 0 → ∀ d4, tc (ends R E) [some (.ref a), some (.tup (ps.map ePt)), some (.tup (r.map ePt)), some (.int w), d4, d5, d6, d7] M) :
    tb__law_spoilt_c1_p tc (ends R E) [some (.ref a), some (.tup (ps.map ePt)), some (.tup (r.map ePt)), some (.int w), some (.lst [.non, .tup [], .tup [.tup []], .lst [.lst (r.map ePt)], .str "ring", .tup [.tup [.str "1", .int 2]], .tup [.tup [.bl true, .int 0]], .tup [.tup [.int 0, .int 0, .int 0]], .int 7]), d5, d6, d7] M := by
  have odd : ∀ x o, 0 ≤ x → x < 9 → FdO o b → itD [.non, .tup [], .tup [.tup []], .lst [.lst (r.map ePt)], .str "ring", .tup [.tup [.str "1", .int 2]], .tup [.tup [.bl true, .int 0]], .tup [.tup [.int 0, .int 0, .int 0]], .int 7] x (Rw R) (um M a o) := fun x o h0 h1 fo => by
    refine it_in h0 (by simpa using h1) fun d hd => Rw.of (k d o ?_ fo)
    have i60 : ∀ x : Int, x.natAbs < 10 → Nice 60 0 240 (.int x) := fun x h => nice_int (by decide) (by decide) (Nat.lt_of_lt_of_le h (by decide))
    have s60 : ∀ x : Str, PySem.PyData.strOk x = true → x.length ≤ 240 → Nice 60 0 240 (.str x) := fun x h hl => nice_str h hl
    have t60 : ∀ es : List D, es.length ≤ 3 → (∀ e, e ∈ es → Nice 60 0 240 e) → Nice 60 2 10000 (.tup [.tup es]) := fun es hl he => nice_tup (n := 800) (fun d hd => by
      rw [List.mem_singleton.mp hd]
      refine nice_tup (n := 240) he ?_
      have := Nat.mul_le_mul_left 241 hl
      omega) (by show (800 + 1) * 1 ≤ 10000; decide)
    simp only [List.mem_cons, List.not_mem_nil, or_false] at hd
    rcases hd with rfl | rfl | rfl | rfl | rfl | rfl | rfl | rfl | rfl
    · exact thg_odd (nice_non.up (by decide) (by decide)) (fun r h e => by cases e) trivial
    · exact thg_odd ((nice_tup (k := 60) (m := 0) (n := 0) (q := 0) (fun d hd => by cases hd) (by decide)).up (by decide) (by decide)) (fun r h e => by cases r <;> first | exact h rfl | cases e) trivial
    · exact thg_odd ((t60 [] (by decide) fun e he => by cases he).up (by decide) (by decide)) (fun r h => by
        cases r with
        | nil => exact absurd rfl h
        | cons a r => exact odd_not fun x xs e => by cases e; exact fun e => by cases e) trivial
    · exact thg_odd ((nice_lst (n := 60000) (m := 2) (q := 100000) (fun d hd => by rw [List.mem_singleton.mp hd]; exact lring60 hr (by omega)) (by show (60000 + 1) * 1 ≤ 100000; decide)).up (by decide) (by decide)) (fun r h e => by cases e) trivial
    · exact thg_odd ((s60 "ring" (by decide +kernel) (by decide +kernel)).up (by decide) (by decide)) (fun r h e => by cases e) trivial
    · exact thg_odd ((t60 [.str "1", .int 2] (by show (2 : Nat) ≤ 3; decide) fun e he => by
        simp only [List.mem_cons, List.not_mem_nil, or_false] at he
        rcases he with rfl | rfl
        · exact s60 "1" (by decide +kernel) (by decide +kernel)
        · exact i60 2 (by decide)).up (by decide) (by decide)) (fun r h => by
        cases r with
        | nil => exact absurd rfl h
        | cons a r => exact odd_not fun x xs e => by cases e; exact fun e => by cases e) trivial
    · exact thg_odd ((t60 [.bl true, .int 0] (by show (2 : Nat) ≤ 3; decide) fun e he => by
        simp only [List.mem_cons, List.not_mem_nil, or_false] at he
        rcases he with rfl | rfl
        · exact nice_bl.up (by decide) (by decide)
        · exact i60 0 (by decide)).up (by decide) (by decide)) (fun r h => by
        cases r with
        | nil => exact absurd rfl h
        | cons a r => exact odd_not fun x xs e => by cases e; exact fun e => by cases e) trivial
    · exact thg_odd ((t60 [.int 0, .int 0, .int 0] (by show (3 : Nat) ≤ 3; decide) fun e he => by
        simp only [List.mem_cons, List.not_mem_nil, or_false, or_self] at he
        rw [he]
        exact i60 0 (by decide)).up (by decide) (by decide)) (fun r h => triple_not h) trivial
    · exact thg_odd ((i60 7 (by decide)).up (by decide) (by decide)) (fun r h e => by cases e) trivial
  unfold tb__law_spoilt_c1_p
  walk_at "dn"
  refine ⟨Nat.zero_le _, eq_tnil hr (by omega) ?_⟩
  cases hr0 : r with
  | nil =>
    subst hr0
    simp only [List.isEmpty_nil, id, if_true]
    refine u__law_draw (b := b) (by omega) (hf.mono (by omega)) fun x o x1 x2 fo => ?_
    try walk_at "dn"
    exact odd x o x1 x2 fo
  | cons c t =>
    simp only [List.isEmpty_cons, id, Bool.false_eq_true, if_false]
    by_cases c0 : w = 0
    · subst c0
      try walk_at "dn"
      refine u__law_draw (b := b) (by omega) (hf.mono (by omega)) fun x o x1 x2 fo => ?_
      try walk_at "dn"
      rw [← hr0]
      exact odd x o x1 x2 fo
    · have q := kc (by rw [hr0]; simp) c0 (some (.lst [.non, .tup [], .tup [.tup []], .lst [.lst (r.map ePt)], .str "ring", .tup [.tup [.str "1", .int 2]], .tup [.tup [.bl true, .int 0]], .tup [.tup [.int 0, .int 0, .int 0]], .int 7]))
      rw [hr0] at q
      try walk_at "dn"
      rw [if_neg c0]
      exact q
/-- a ring of old points and at most one more *)-/
theorem cut_one {α : Type} (xs : List α) (k : Nat) : cut xs (some (k : Int)) (some ((k : Int) + 1)) = (xs.drop k).take 1 := by
  rw [show ((k : Int) + 1) = ((k + 1 : Nat) : Int) by omega]
  unfold cut
  rw [HT.sIx_nat, HT.sIx_nat]
  by_cases h : k + 1 ≤ xs.length
  · rw [Nat.min_eq_left h, Nat.min_eq_left (show k ≤ xs.length by omega), show k + 1 - k = 1 by omega]
  · rw [List.drop_eq_nil_of_le (show xs.length ≤ min k xs.length by omega), List.drop_eq_nil_of_le (show xs.length ≤ k by omega), List.take_nil, List.take_nil]
theorem cut_drop1 {α : Type} (xs : List α) (k : Nat) : cut xs (some ((k : Int) + 1)) none = xs.drop (k + 1) := by
  rw [show ((k : Int) + 1) = ((k + 1 : Nat) : Int) by omega, cut_drop]
section
variable {ps r : List Pt} {w : Int} {b : Nat} {B : Int} {n : Nat} {ne : Prop} {R : PD} {E : Ex → MS → Prop} {M : MS} {i : Nat} {pt : Pt} {d4 d5 : Option D} {a : Addr}
theorem thg_new (hB : B < 2000) (hn : n < 50) (hr : ∀ p, p ∈ r → PB B p) (hpt : PB B pt) (hne : ne) {q : List Pt} (h : ∀ p, p ∈ q → p ∈ r ∨ p = pt) (hl : q.length ≤ 2 * n + 2) : Thg (B + 1) (2 * n + 2) ne (.tup (q.map ePt)) :=
  thg_ring (by omega) (by omega) (fun p hp => by
    rcases h p hp with h | rfl
    · exact (hr p h).mono (by omega)
    · exact hpt.mono (by omega)) hl fun _ => hne
theorem sp_c3 {tc : DTS} (hB : B < 2000) (hn : n < 50) (hr : ∀ p, p ∈ r → PB B p) (hpt : PB B pt) (hne : ne) (lr : r.length ≤ n)
    (k : ∀ d, Thg (B + 1) (2 * n + 2) ne d → R d M) (kc : w ≠ 1 → tc (ends R E) [some (.ref a), some (.tup (ps.map ePt)), some (.tup (r.map ePt)), some (.int w), d4, d5, some (.int i), some (ePt pt)] M) :
    tb__law_spoilt_c3_p tc (ends R E) [some (.ref a), some (.tup (ps.map ePt)), some (.tup (r.map ePt)), some (.int w), d4, d5, some (.int i), some (ePt pt)] M := by
  unfold tb__law_spoilt_c3_p
  walk_at "dn"
  by_cases c : w = 1
  · rw [if_pos c, cut_take, cut_drop1, ← List.map_take, ← List.map_drop, ← List.map_append]
    refine ⟨by rw [List.length_map, List.length_map, List.length_take, List.length_drop]; exact slz (by omega), Rw.of (k _ (thg_new (pt := pt) hB hn hr hpt hne (fun p hp => .inl ?_) ?_))⟩
    · rcases List.mem_append.mp hp with hp | hp
      · exact List.mem_of_mem_take hp
      · exact List.mem_of_mem_drop hp
    · rw [List.length_append, List.length_take, List.length_drop]; omega
  · rw [if_neg c]
    exact kc c
theorem sp_c4 {tc : DTS} (hB : B < 2000) (hn : n < 50) (hr : ∀ p, p ∈ r → PB B p) (hpt : PB B pt) (hne : ne) (lr : r.length ≤ n)
    (k : ∀ d, Thg (B + 1) (2 * n + 2) ne d → R d M) (kc : w ≠ 2 → tc (ends R E) [some (.ref a), some (.tup (ps.map ePt)), some (.tup (r.map ePt)), some (.int w), d4, d5, some (.int i), some (ePt pt)] M) :
    tb__law_spoilt_c4_p tc (ends R E) [some (.ref a), some (.tup (ps.map ePt)), some (.tup (r.map ePt)), some (.int w), d4, d5, some (.int i), some (ePt pt)] M := by
  unfold tb__law_spoilt_c4_p
  walk_at "dn"
  by_cases c : w = 2
  · rw [if_pos c, cut_take, cut_drop, cut_one, ← List.map_take, ← List.map_drop, ← List.map_take, ← List.map_append, ← List.map_append]
    refine ⟨by rw [List.length_map, List.length_map, List.length_take, List.length_take, List.length_drop]; exact slz (by omega), by rw [List.length_map, List.length_map, List.length_append, List.length_take, List.length_take, List.length_drop]; exact slz (by omega), Rw.of (k _ (thg_new (pt := pt) hB hn hr hpt hne (fun p hp => .inl ?_) ?_))⟩
    · rcases List.mem_append.mp hp with hp | hp
      · rcases List.mem_append.mp hp with hp | hp
        · exact List.mem_of_mem_take hp
        · exact List.mem_of_mem_drop (List.mem_of_mem_take hp)
      · exact List.mem_of_mem_drop hp
    · rw [List.length_append, List.length_append, List.length_take, List.length_take, List.length_drop]; omega
  · rw [if_neg c]
    exact kc c
theorem sp_c5 {tc : DTS} (hB : B < 2000) (hn : n < 50) (hr : ∀ p, p ∈ r → PB B p) (hpt : PB B pt) (hne : ne) (lr : r.length ≤ n)
    (k : ∀ d, Thg (B + 1) (2 * n + 2) ne d → R d M) (kc : w ≠ 3 → tc (ends R E) [some (.ref a), some (.tup (ps.map ePt)), some (.tup (r.map ePt)), some (.int w), d4, d5, some (.int i), some (ePt pt)] M) :
    tb__law_spoilt_c5_p tc (ends R E) [some (.ref a), some (.tup (ps.map ePt)), some (.tup (r.map ePt)), some (.int w), d4, d5, some (.int i), some (ePt pt)] M := by
  unfold tb__law_spoilt_c5_p
  walk_at "dn"
  by_cases c : w = 3
  · rw [if_pos c, cut_take, cut_drop1, ← List.map_take, ← List.map_drop]
    rw [show (r.take i).map ePt ++ [ePt pt] ++ (r.drop (i + 1)).map ePt = (r.take i ++ [pt] ++ r.drop (i + 1)).map ePt by rw [List.map_append, List.map_append]; rfl]
    refine ⟨by decide, by rw [List.length_map, List.length_take]; exact slz (by simp; omega), by rw [List.length_append, List.length_map, List.length_map, List.length_take, List.length_drop]; exact slz (by simp; omega), Rw.of (k _ (thg_new (pt := pt) hB hn hr hpt hne (fun p hp => ?_) ?_))⟩
    · rcases List.mem_append.mp hp with hp | hp
      · rcases List.mem_append.mp hp with hp | hp
        · exact .inl (List.mem_of_mem_take hp)
        · exact .inr (List.mem_singleton.mp hp)
      · exact .inl (List.mem_of_mem_drop hp)
    · rw [List.length_append, List.length_append, List.length_take, List.length_drop, List.length_singleton]; omega
  · rw [if_neg c]
    exact kc c
theorem sp_c6 {tc : DTS} (hB : B < 2000) (hn : n < 50) (hr : ∀ p, p ∈ r → PB B p) (hpt : PB B pt) (hne : ne) (lr : r.length ≤ n)
    (k : ∀ d, Thg (B + 1) (2 * n + 2) ne d → R d M) (kc : w ≠ 4 → tc (ends R E) [some (.ref a), some (.tup (ps.map ePt)), some (.tup (r.map ePt)), some (.int w), d4, d5, some (.int i), some (ePt pt)] M) :
    tb__law_spoilt_c6_p tc (ends R E) [some (.ref a), some (.tup (ps.map ePt)), some (.tup (r.map ePt)), some (.int w), d4, d5, some (.int i), some (ePt pt)] M := by
  unfold tb__law_spoilt_c6_p
  walk_at "dn"
  by_cases c : w = 4
  · rw [if_pos c, cut_take, cut_drop, ← List.map_take, ← List.map_drop]
    rw [show (r.take i).map ePt ++ [ePt pt] ++ (r.drop i).map ePt = (r.take i ++ [pt] ++ r.drop i).map ePt by rw [List.map_append, List.map_append]; rfl]
    refine ⟨by decide, by rw [List.length_map, List.length_take]; exact slz (by simp; omega), by rw [List.length_append, List.length_map, List.length_map, List.length_take, List.length_drop]; exact slz (by simp; omega), Rw.of (k _ (thg_new (pt := pt) hB hn hr hpt hne (fun p hp => ?_) ?_))⟩
    · rcases List.mem_append.mp hp with hp | hp
      · rcases List.mem_append.mp hp with hp | hp
        · exact .inl (List.mem_of_mem_take hp)
        · exact .inr (List.mem_singleton.mp hp)
      · exact .inl (List.mem_of_mem_drop hp)
    · rw [List.length_append, List.length_append, List.length_take, List.length_drop, List.length_singleton]; omega
  · rw [if_neg c]
    exact kc c
theorem sp_c7 {d4 d5 : Option D} (hB : 0 ≤ B ∧ B < 2000) (hn : n < 50) (hps : ∀ p, p ∈ ps → PB B p) (hr : ∀ p, p ∈ r → PB B p) (hpt : PB B pt) (hne : ne) (lr : r.length ≤ n) (lp : ps.length ≤ n) (hi : i < r.length) (hw : 5 ≤ w ∧ w ≤ 12)
    (k : ∀ d, Thg (B + 1) (2 * n + 2) ne d → R d M) :
    tb__law_spoilt_c7 (ends R E) [some (.ref a), some (.tup (ps.map ePt)), some (.tup (r.map ePt)), some (.int w), d4, d5, some (.int i), some (ePt pt)] M := by
  unfold tb__law_spoilt_c7
  walk_at "dn"
  by_cases c : w = 5
  · rw [if_pos c, cut_take, cut_drop, ← List.map_take, ← List.map_drop, ← List.map_append]
    refine ⟨by rw [List.length_map, List.length_map, List.length_take, List.length_drop]; exact slz (by omega), Rw.of (k _ (thg_new (pt := pt) hB.2 hn hr hpt hne (fun p hp => .inl ?_) ?_))⟩
    · rcases List.mem_append.mp hp with hp | hp
      · exact List.mem_of_mem_drop hp
      · exact List.mem_of_mem_take hp
    · rw [List.length_append, List.length_take, List.length_drop]; omega
  · rw [if_neg c]
    rw [pick_map, pick_map]
    have l1 := pick_len (lo := none) (k := 2) (by decide) (fun c h => by cases h) r
    have l2 := pick_len (lo := some 1) (k := 2) (by decide) (fun c h => by cases h; decide) r
    refine ⟨by rw [List.length_map, List.length_map]; exact slz (by omega), ?_⟩
    refine q_sorTP fun qs hq => ?_
    rw [q_tupL]
    have hx := List.getElem?_eq_getElem hi
    generalize r[i] = x at hx
    have mx := List.mem_of_getElem? hx
    have it : ∀ (R : PD) (M : MS), R (ePt x) M → itD (r.map ePt) (i : Int) R M := fun R M q => it_at (x := ePt x) i rfl (by rw [List.getElem?_map, hx]; rfl) q
    refine ⟨by decide, fun p hp => ⟨⟨_, rfl⟩, it _ _ ?_⟩⟩
    rw [show ePt x = .tup [.int x.1, .int x.2] from rfl, q_lstT, cut_take, cut_drop1, ← List.map_take, ← List.map_drop]
    refine ⟨by decide, by rw [List.length_map, List.length_take]; exact slz (by omega), by rw [List.length_append, List.length_map, List.length_map, List.length_take, List.length_drop]; exact slz (by simp; omega), _, um_same, by show (5 : Nat) < sizeLine; decide, ⟨_, rfl⟩, it _ _ ?_⟩
    rw [show ePt x = .tup [.int x.1, .int x.2] from rfl]
    try walk_at "dn"
    refine it _ _ ?_
    rw [show ePt x = .tup [.int x.1, .int x.2] from rfl]
    try walk_at "dn"
    refine ⟨by decide, by decide, by rw [List.length_map, List.length_take]; exact slz (by omega), by rw [List.length_append, List.length_map, List.length_map, List.length_take, List.length_drop]; exact slz (by simp; omega), by show (6 : Nat) < sizeLine; decide, ?_⟩
    have wl : 0 ≤ w - 6 := by omega
    refine it_in wl (by show w - 6 < 7; omega) fun d hd => Rw.le (k d ?_) (Le.um hp)
    have drop : ∀ p, p ∈ r.take i ∨ p ∈ r.drop (i + 1) → p ∈ r := fun p h => h.elim List.mem_of_mem_take List.mem_of_mem_drop
    simp only [List.cons_append, List.nil_append, List.mem_cons, List.not_mem_nil, or_false] at hd
    rcases hd with rfl | rfl | rfl | rfl | rfl | rfl | rfl
    · rw [← List.map_reverse]
      exact thg_new (pt := pt) hB.2 hn hr hpt hne (fun p hp => .inl (List.mem_reverse.mp hp)) (by rw [List.length_reverse]; omega)
    · rw [← List.map_append]
      refine thg_new (pt := pt) hB.2 hn hr hpt hne (fun p hp => .inl ?_) (by rw [List.length_append]; omega)
      rcases List.mem_append.mp hp with hp | hp
      · exact pick_mem hp
      · exact pick_mem hp
    · exact thg_odd ((lring60 (fun p hp => (hr p hp).mono (by omega)) (by omega)).up (by decide) (by decide)) (fun r h e => by cases e) trivial
    · exact thg_ring (by omega) (by omega) (fun p hp => (hps p hp).mono (by omega)) (by omega) fun _ => hne
    · exact thg_new (pt := pt) hB.2 hn hr hpt hne (fun p hp => .inl (hq.mem_iff.mp hp)) (by rw [hq.length_eq]; omega)
    · have np : ∀ p, p ∈ r → Nice 60 1 500 (ePt p) := fun p hp => pt60 ((hr p hp).mono (by omega))
      have nl : Nice 60 1 500 (.lst [.int x.1, .int x.2]) := by
        obtain ⟨⟨a, b⟩, c, d⟩ := hr x mx
        have up : ∀ z : Int, -2000 ≤ z → z ≤ 2000 → z.natAbs < 10 ^ 60 := fun z h1 h2 => Nat.lt_of_lt_of_le (show z.natAbs < 10 ^ 4 by omega) (by decide)
        refine nice_lst (n := 240) (fun d hd => ?_) (by show (240 + 1) * 2 ≤ 500; decide)
        simp only [List.mem_cons, List.not_mem_nil, or_false] at hd
        rcases hd with rfl | rfl
        · exact nice_int (by decide) (by decide) (up _ (by omega) (by omega))
        · exact nice_int (by decide) (by decide) (up _ (by omega) (by omega))
      refine thg_odd ((nice_tup (n := 500) (m := 1) (q := 60000) (fun d hd => ?_) ?_).up (by decide) (by decide)) (fun r' h e => ?_) trivial
      · rcases List.mem_append.mp hd with hd | hd
        · rcases List.mem_append.mp hd with hd | hd
          · obtain ⟨p, hp, rfl⟩ := List.mem_map.mp hd
            exact np p (drop p (.inl hp))
          · rw [List.mem_singleton.mp hd]; exact nl
        · obtain ⟨p, hp, rfl⟩ := List.mem_map.mp hd
          exact np p (drop p (.inr hp))
      · rw [List.length_append, List.length_append, List.length_map, List.length_map, List.length_take, List.length_drop, List.length_singleton]; omega
      · have e := D.tup.inj e
        have m : D.lst [.int x.1, .int x.2] ∈ r'.map ePt := by
          rw [← e]
          exact List.mem_append_left _ (List.mem_append_right _ (.head _))
        obtain ⟨p, _, e2⟩ := List.mem_map.mp m
        cases e2
    · rw [show (r.take i).map ePt ++ [D.tup [.int (x.1 + 1), .int x.2]] ++ (r.drop (i + 1)).map ePt = (r.take i ++ [(x.1 + 1, x.2)] ++ r.drop (i + 1)).map ePt by rw [List.map_append, List.map_append]; rfl]
      refine thg_ring (by omega) (by omega) (fun p hp => ?_) (by rw [List.length_append, List.length_append, List.length_take, List.length_drop, List.length_singleton]; omega) fun _ => hne
      rcases List.mem_append.mp hp with hp | hp
      · rcases List.mem_append.mp hp with hp | hp
        · exact (hr p (drop p (.inl hp))).mono (by omega)
        · rw [List.mem_singleton.mp hp]
          obtain ⟨⟨a, b⟩, c, d⟩ := hr x mx
          exact ⟨⟨by show -(B + 1) ≤ x.1 + 1; omega, by show x.1 + 1 ≤ B + 1; omega⟩, by show -(B + 1) ≤ x.2; omega, by show x.2 ≤ B + 1; omega⟩
      · exact (hr p (drop p (.inr hp))).mono (by omega)
theorem sp_c2 {tc : DTS} {d6 d7 : Option D} (hf : Feed M a (b + 3)) (hr0 : r ≠ []) (hp0 : ps ≠ []) (lr : r.length ≤ 50) (lp : ps.length ≤ 50)
    (kc : ∀ (i : Nat) pt o, i < r.length → pt ∈ ps → FdO o b → tc (ends R E) [some (.ref a), some (.tup (ps.map ePt)), some (.tup (r.map ePt)), some (.int w), d4, d5, some (.int i), some (ePt pt)] (um M a o)) :
    tb__law_spoilt_c2_p tc (ends R E) [some (.ref a), some (.tup (ps.map ePt)), some (.tup (r.map ePt)), some (.int w), d4, d5, d6, d7] M := by
  have h1 := List.length_pos_iff.mpr hr0
  have h2 := List.length_pos_iff.mpr hp0
  unfold tb__law_spoilt_c2_p
  walk_at "dn"
  rw [List.length_map]
  refine u__law_draw (b := b + 2) (by omega) hf fun x o x1 x2 f1 => ?_
  rw [List.length_map]
  refine u__law_draw (b := b) (by omega) ((Feed.um f1).mono (by omega)) fun y o2 y1 y2 f2 => ?_
  rw [um_um, q_ixT]
  refine it_in y1 (by rw [List.length_map]; exact y2) fun d hd => ?_
  obtain ⟨p, hp, rfl⟩ := List.mem_map.mp hd
  obtain ⟨i, rfl⟩ : ∃ i : Nat, x = i := ⟨x.toNat, by omega⟩
  exact kc i p o2 (by omega) hp f2
end
theorem h__law_spoilt : Hg g__law_spoilt tb__law_spoilt n__law_spoilt := by
  rintro ds R E M ⟨a, ps, r, w, b, B, n, ne, rfl, hf, hw, hB, hn, hps, hr, lp, lr, hne, hrn, k⟩
  unfold tb__law_spoilt
  have bp : ∀ {q : List Pt}, (∀ p, p ∈ q → PB B p) → PBs q := fun h p hp => (h p hp).mono (by omega)
  have fin := fun d4 d5 d6 d7 => sp_c1 (tc := tb__law_spoilt_c2) (a := a) (ps := ps) (r := r) (w := w) (n := n) (ne := ne) (R := R) (E := E) (M := M) (d5 := d5) (d6 := d6) (d7 := d7) hf (bp hr) (by omega) k fun hr0 hw0 d4 => by
    have hp0 := hrn hr0
    refine sp_c2 (tc := tb__law_spoilt_c3) hf hr0 hp0 (by omega) (by omega) fun i pt o hi hpt fo => ?_
    have k2 := fun d h => k d o h fo
    refine sp_c3 (tc := tb__law_spoilt_c4) hB.2 hn hr (hps pt hpt) (hne.mpr hp0) lr k2 fun w1 => ?_
    refine sp_c4 (tc := tb__law_spoilt_c5) hB.2 hn hr (hps pt hpt) (hne.mpr hp0) lr k2 fun w2 => ?_
    refine sp_c5 (tc := tb__law_spoilt_c6) hB.2 hn hr (hps pt hpt) (hne.mpr hp0) lr k2 fun w3 => ?_
    refine sp_c6 (tc := tb__law_spoilt_c7) hB.2 hn hr (hps pt hpt) (hne.mpr hp0) lr k2 fun w4 => ?_
    exact sp_c7 hB hn hps hr (hps pt hpt) (hne.mpr hp0) lr lp hi (by omega) k2
  have f2 : tb__law_spoilt_c1 = tb__law_spoilt_c1_p tb__law_spoilt_c2 := rfl
  rw [← f2] at fin
  generalize tb__law_spoilt_c1 = tc at fin ⊢
  unfold tb__law_spoilt_p
  walk_at "dn"
  exact ⟨by decide, by decide, by decide, by decide, by decide, by decide, by decide, by decide, by decide, by decide, by decide, fin (by omega) _ _ _⟩

/-! the hull lies in the points *)-/
theorem sorted_one : ∀ {l m : List Pt}, l.Pairwise (fun a b => cd a < cd b) → m.Pairwise (fun a b => cd a < cd b) → (∀ x, x ∈ l ↔ x ∈ m) → l = m
  | [], [], _, _, _ => rfl
  | [], b :: m, _, _, h => absurd ((h b).mpr (.head _)) (List.not_mem_nil)
  | a :: l, [], _, _, h => absurd ((h a).mp (.head _)) (List.not_mem_nil)
  | a :: l, b :: m, h1, h2, h => by
    have c1 := List.pairwise_cons.mp h1
    have c2 := List.pairwise_cons.mp h2
    have e : a = b := by
      rcases List.mem_cons.mp ((h a).mp (.head _)) with e | e
      · exact e
      · rcases List.mem_cons.mp ((h b).mpr (.head _)) with e' | e'
        · exact e'.symm
        · have := c1.1 b e'
          have := c2.1 a e
          omega
    subst e
    rw [sorted_one c1.2 c2.2 fun x => ⟨fun hx => ?_, fun hx => ?_⟩]
    · rcases List.mem_cons.mp ((h x).mp (.tail _ hx)) with e | e
      · have := c1.1 x hx
        rw [e] at this; omega
      · exact e
    · rcases List.mem_cons.mp ((h x).mpr (.tail _ hx)) with e | e
      · have := c2.1 x hx
        rw [e] at this; omega
      · exact e
theorem IsS.cd {qs ps : List Pt} (hok : PBs ps) (h : IsS qs ps) : qs.Pairwise fun a b => cd a < cd b := h.pw.imp_of_mem fun {a b} ha hb z => (ltP_cd (hok a ((h.mem a).mp ha)) (hok b ((h.mem b).mp hb))).mp z
theorem isS_one {qs qs' ps ps' : List Pt} (hok : PBs ps) (hok' : PBs ps') (he : ∀ x, x ∈ ps ↔ x ∈ ps') (h : IsS qs ps) (h' : IsS qs' ps') : qs = qs' := sorted_one (h.cd hok) (h'.cd hok') fun x => (h.mem x).trans ((he x).trans (h'.mem x).symm)
theorem hullV_ok {qs ps : List Pt} (hok : PBs ps) (h : IsS qs ps) : (∀ x, x ∈ hullV qs → x ∈ ps) ∧ (hullV qs).length ≤ qs.length ∧ (hullV qs).Nodup := by
  by_cases c : qs.length < 2
  · unfold hullV
    rw [if_pos c]
    exact ⟨fun x hx => (h.mem x).mp hx, Nat.le_refl _, h.nd⟩
  · obtain ⟨m, hr⟩ := round_hull (fun p hp => hok p ((h.mem p).mp hp)) (h.cd hok) (by omega)
    exact ⟨fun x hx => (h.mem x).mp (hr.sub x hx), hr.nd.length_le_of_subset fun x hx => hr.sub x hx, hr.nd⟩

/-! k56: the law *)-/
theorem Thg.up {B B' : Int} {n n' : Nat} {ne : Prop} {d : D} (h : Thg B n ne d) (hb : B ≤ B') (hn : n ≤ n') : Thg B' n' ne d :=
  ⟨h.nice, fun r e => by
    obtain ⟨a, b, c⟩ := h.ring r e
    exact ⟨fun p hp => (a p hp).mono hb, by omega, c⟩⟩
theorem Thg.tt {B : Int} {n : Nat} {ne : Prop} {d : D} (h : Thg B n ne d) : TT d := ⟨⟨4, by decide, nice_el h.nice⟩, Nat.le_trans h.nice.wgt (by decide)⟩
def judR (ps : List Pt) (d : D) : D → Prop := fun x => (isRgB d = false ∧ x = .tup [.str "shape", .int (-1)]) ∨ ∃ r, d = .tup (r.map ePt) ∧ x = resD (verd ps r)
theorem jud_ex (ps : List Pt) (d : D) : ∃ x, judR ps d x ∧ (isRgB d = false → x = .tup [.str "shape", .int (-1)]) ∧ ∀ r, d = .tup (r.map ePt) → x = resD (verd ps r) := by
  cases e : isRgB d with
  | false =>
    refine ⟨_, .inl ⟨e, rfl⟩, fun _ => rfl, fun r h => ?_⟩
    rw [h, ring_rg] at e
    cases e
  | true =>
    obtain ⟨r, rfl⟩ := rg_ring e
    refine ⟨_, .inr ⟨r, rfl, rfl⟩, fun h => (by cases h), fun r' h => ?_⟩
    rw [map_inj (D.tup.inj h)]
theorem fB_lt {n k : Nat} {bad : Nat → Bool} (h : fB n bad = some k) : k < n := by
  unfold fB at h
  exact List.mem_range.mp (List.mem_of_find?_eq_some h)
theorem word60 {x : Str} {d : D} (h1 : PySem.PyData.strOk x = true) (h2 : x.length ≤ 700) (h3 : Nice 60 1 700 d) : Nice 60 4 2000 (.tup [.str x, d]) := by
  refine Nice.up (m := 2) (n := 2000) (nice_tup (n := 700) (m := 1) (q := 2000) (fun e he => ?_) (by show (700 + 1) * 2 ≤ 2000; decide)) (by decide) (by decide)
  simp only [List.mem_cons, List.not_mem_nil, or_false] at he
  rcases he with rfl | rfl
  · exact (nice_str h1 h2).up (by decide) (by decide)
  · exact h3
theorem im1 : Nice 60 1 700 (.int (-1)) := Nice.up (m := 0) (n := 240) (nice_int (by decide) (by decide) (by decide)) (by decide) (by decide)
theorem in60 {k : Nat} (h : k ≤ 1000) : Nice 60 0 240 (.int (k : Int)) := nice_int (by decide) (by decide) (Nat.lt_of_lt_of_le (show (k : Int).natAbs < 10 ^ 4 by omega) (by decide))
theorem in61 {k : Nat} (h : k ≤ 1000) : Nice 60 1 700 (.int (k : Int)) := (in60 h).up (by decide) (by decide)
theorem verd_nice {ps r : List Pt} (lp : ps.length ≤ 1000) (lr : r.length ≤ 1000) : Nice 60 4 2000 (resD (verd ps r)) := by
  have l6 : Nice 60 4 2000 (resD (v6 ps r)) := by
    unfold v6
    by_cases c : badM ps r = true
    · rw [if_pos c]
      exact word60 (x := "first") (by decide +kernel) (by decide +kernel) im1
    · rw [if_neg c]
      exact word60 (x := "told") (by decide +kernel) (by decide +kernel) (nice_bl.up (by decide) (by decide))
  have l5 : Nice 60 4 2000 (resD (v5 ps r)) := by
    unfold v5
    by_cases c : r.length < 3
    · simp only [if_pos c]
      exact l6
    · simp only [if_neg c]
      cases h : fB2 r.length ps.length (badO ps r) with
      | none => exact l6
      | some z =>
        obtain ⟨k, j⟩ := z
        unfold fB2 at h
        split at h
        · cases h
        · rename_i k2 h3
          split at h
          · cases h
          · rename_i j2 h4
            cases h
            have a := fB_lt h3
            have b := fB_lt h4
            refine word60 (x := "out") (by decide +kernel) (by decide +kernel) (nice_tup (n := 240) (m := 0) (q := 700) (fun e he => ?_) (by show (240 + 1) * 2 ≤ 700; decide))
            simp only [List.mem_cons, List.not_mem_nil, or_false] at he
            rcases he with rfl | rfl
            · exact in60 (by omega)
            · exact in60 (by omega)
  have l4 : Nice 60 4 2000 (resD (v4 ps r)) := by
    unfold v4
    by_cases c : r.length < 3
    · simp only [if_pos c]
      exact l5
    · simp only [if_neg c]
      cases h : fB r.length (badT r) with
      | none => exact l5
      | some k => exact word60 (x := "turn") (by decide +kernel) (by decide +kernel) (in61 (by have := fB_lt h; omega))
  have l3 : Nice 60 4 2000 (resD (v3 ps r)) := by
    unfold v3
    by_cases c : r.length < 3
    · simp only [if_pos c]
      cases h : fB ps.length (badF ps r) with
      | none => exact l4
      | some k => exact word60 (x := "few") (by decide +kernel) (by decide +kernel) (in61 (by have := fB_lt h; omega))
    · simp only [if_neg c]
      exact l4
  rw [verd_v]
  cases h1 : fB r.length (badC ps r) with
  | some k => exact word60 (x := "corner") (by decide +kernel) (by decide +kernel) (in61 (by have := fB_lt h1; omega))
  | none => exact l3
theorem jud_nice {ps : List Pt} {d x : D} {B : Int} {n : Nat} {ne : Prop} (h : Thg B n ne d) (hn : n ≤ 1000) (lp : ps.length ≤ 1000) (j : judR ps d x) : Nice 60 4 2000 x := by
  rcases j with ⟨_, rfl⟩ | ⟨r, e, rfl⟩
  · exact word60 (x := "shape") (by decide +kernel) (by decide +kernel) im1
  · exact verd_nice lp (by have := (h.ring r e).2.1; omega)
def g_law : G := fun ds R E M => ∃ (ns : List Int), ds = [.scr ns] ∧ (∀ q, M q = none) ∧ (∀ M', R (.bl true) M')
abbrev n_law : List Str := ["script", "feed", "ways", "lap", "points", "ring", "things", "way", "thing", "k", "kept"]
def tb_law_b2 : DTS :=
  (dSeq (dSet 8 (dCall g__law_spoilt (dCons (dVar 1) (dCons (dVar 4) (dCons (dVar 5) (dCons (dVar 7) dNil))))))
  (dSeq (dExpr (dMt appD (dVar 6) (dCons (dVar 8) dNil)))
  (dIfS (dAnd (dTru (dCall g__law_is_ring (dCons (dVar 8) dNil))) (dTst (dOp (eqD fun k => !k) (dVar 8) (dTup dNil)))) (dExpr (dMt appD (dVar 6) (dCons (dCall g__law_spoilt (dCons (dVar 1) (dCons (dVar 4) (dCons (dVar 8) (dCons (dOp addD (dC (.int 1)) (dCall g__law_draw (dCons (dVar 1) (dCons (dC (.int 6)) dNil)))) dNil))))) dNil))) dNext)))
def tb_law_b3 : DTS :=
  (dSeq (dSet 10 (dCB reprD (dCons (dTup (dCons (dVar 4) (dCons (dVar 8) dNil))) dNil)))
  (dSeq (dIfS (dTst (dOp (eqD fun k => !k) (dCB reprD (dCons (dCall g__law_said (dCons (dVar 4) (dCons (dVar 8) dNil))) dNil)) (dCB reprD (dCons (dCall g__law_ought (dCons (dVar 4) (dCons (dVar 8) dNil))) dNil)))) (dRet (dC (.bl false))) dNext)
  (dIfS (dTst (dOp (eqD fun k => !k) (dCB reprD (dCons (dTup (dCons (dVar 4) (dCons (dVar 8) dNil))) dNil)) (dVar 10))) (dRet (dC (.bl false))) dNext)))
def tb_law_b1_p (t_b2 : DTS) (t_b3 : DTS) : DTS :=
  (dSeq (dSet 4 (dCB tupD (dCons (dCall g__law_points (dCons (dVar 1) (dCons (dIx (dLst (dCons (dCall g__law_draw (dCons (dVar 1) (dCons (dC (.int 9)) dNil))) (dCons (dC (.int 20)) dNil))) (dCB intD (dCons (dOp (eqD id) (dCall g__law_draw (dCons (dVar 1) (dCons (dC (.int 8)) dNil))) (dC (.int 0))) dNil))) dNil))) dNil)))
  (dSeq (dSet 5 (dCall g__law_hull (dCons (dVar 4) dNil)))
  (dSeq (dSet 6 (dLstN (dCons (dVar 5) dNil)))
  (dSeq (dFor (dItems (dSl (dVar 2) (dPart (dOp mulD (dC (.int 4)) (dVar 3))) (dPart (dOp addD (dOp mulD (dC (.int 4)) (dVar 3)) (dC (.int 4)))))) (.nm 7) t_b2)
  (dForL 6 (.nm 8) t_b3)))))
def tb_law_b1 : DTS := tb_law_b1_p tb_law_b2 tb_law_b3
def tb_law_c2_p (t_b1 : DTS) : DTS :=
  (dSeq (dFor (dRng1 (dCons (dC (.int 3)) dNil)) (.nm 3) t_b1)
  (dRet (dC (.bl true))))
def tb_law_c2 : DTS := tb_law_c2_p tb_law_b1
def tb_law_p (t_c2 : DTS) : DTS :=
  (dSeq (dSet 1 (dCall g__law_feed (dCons (dVar 0) dNil)))
  (dSeq (dSet 2 (dLc (dRng1 (dCons (dC (.int 12)) dNil)) (.nm 9) dYes (dCall g__law_draw (dCons (dVar 1) (dCons (dC (.int 13)) dNil))) [9]))
  t_c2))
def tb_law : DTS := tb_law_p tb_law_c2
theorem l_law : ∀ ds R E M, g_law ds R E M → ds.length = 1 := by
  rintro ds R E M ⟨_, rfl, -⟩; rfl
theorem u_law {ns : List Int} {R : PD} {E : Ex → MS → Prop} {M : MS} (hM : ∀ q, M q = none) (k : ∀ M', R (.bl true) M') : g_law [.scr ns] R E M := ⟨_, rfl, hM, k⟩
theorem law_b3 {ps : List Pt} {d : D} {n : Nat} {ne : Prop} {De : DEnds} {M : MS} {d0 d1 d2 d3 d5 d6 d7 d9 d10 : Option D} (hp : PBs ps) (lp : ps.length ≤ 50) (hd : Thg 2000 n ne d) (hn : n ≤ 1000)
    (k : ∀ d10, De.nx [d0, d1, d2, d3, some (.tup (ps.map ePt)), d5, d6, d7, some d, d9, d10] M) :
    tb_law_b3 De [d0, d1, d2, d3, some (.tup (ps.map ePt)), d5, d6, d7, some d, d9, d10] M := by
  obtain ⟨x, hx, h0, h1⟩ := jud_ex ps d
  have nx := jud_nice hd hn (by omega) hx
  have hring : ∀ r, d = .tup (r.map ePt) → PBs r ∧ r.length ≤ 1000 := fun r e => ⟨(hd.ring r e).1, by have := (hd.ring r e).2.1; omega⟩
  have nb : Nice 60 5 250000 (.tup [.tup (ps.map ePt), d]) := nice_tup (n := 100000) (fun e he => by
    simp only [List.mem_cons, List.not_mem_nil, or_false] at he
    rcases he with rfl | rfl
    · exact (ring60 hp (by omega)).up (by decide) (by decide)
    · exact hd.nice) (by show (100000 + 1) * 2 ≤ 250000; decide)
  unfold tb_law_b3
  walk_at "dn"
  refine ⟨by decide, ?_⟩
  refine repr_of nb (by decide) (by decide) (by decide) ?_
  try walk_at "dn"
  have go : ∀ R : PD, R x M → g__law_said [.tup (ps.map ePt), d] R (fun x M' => De.ex x [d0, d1, d2, d3, some (.tup (ps.map ePt)), d5, d6, d7, some d, d9, some (.str (pd (.tup [.tup (ps.map ePt), d])).shown)] M') M := fun R q =>
    u__law_said hp (by omega) hd.tt hring (fun e => by rw [← h0 e]; exact q) (fun r e => by rw [← h1 r e]; exact q) trivial
  have go2 : ∀ R : PD, R x M → g__law_ought [.tup (ps.map ePt), d] R (fun x M' => De.ex x [d0, d1, d2, d3, some (.tup (ps.map ePt)), d5, d6, d7, some d, d9, some (.str (pd (.tup [.tup (ps.map ePt), d])).shown)] M') M := fun R q =>
    u__law_ought hp (by omega) hd.tt hring (fun e => by rw [← h0 e]; exact q) (fun r e => by rw [← h1 r e]; exact q) trivial
  refine go _ ?_
  refine repr_of nx (by decide) (by decide) (by decide) ?_
  refine go2 _ ?_
  refine repr_of nx (by decide) (by decide) (by decide) ?_
  rw [q_eqS, decide_eq_true rfl]
  try walk_at "dn"
  refine ⟨by decide, ?_⟩
  refine repr_of nb (by decide) (by decide) (by decide) ?_
  rw [q_eqS, decide_eq_true rfl]
  try walk_at "dn"
  exact k _
structure ST (M : MS) (a p : Addr) (b : Nat) (ne : Prop) (L : List D) : Prop where
  fd : Feed M a b
  ls : M p = some (.lst L)
  pa : p ≠ a
  ok : ∀ d, d ∈ L → Thg 2000 100 ne d
  ln : L.length ≤ 1000
theorem ST.draw {M : MS} {a p : Addr} {b c : Nat} {ne : Prop} {L : List D} {o : MO} (h : ST M a p b ne L) (f : FdO o c) : ST (um M a o) a p c ne L :=
  ⟨Feed.um f, by rw [um_ne h.pa]; exact h.ls, h.pa, h.ok, h.ln⟩
theorem ST.push {M : MS} {a p : Addr} {b : Nat} {ne : Prop} {L : List D} {d : D} (h : ST M a p b ne L) (hd : Thg 2000 100 ne d) (hl : L.length < 1000) : ST (um M p (.lst (L ++ [d]))) a p b ne (L ++ [d]) := by
  obtain ⟨o, e, f⟩ := h.fd
  refine ⟨⟨o, by rw [um_ne h.pa.symm]; exact e, f⟩, um_same, h.pa, fun x hx => ?_, by rw [List.length_append, List.length_singleton]; omega⟩
  rcases List.mem_append.mp hx with hx | hx
  · exact h.ok x hx
  · rw [List.mem_singleton.mp hx]; exact hd
theorem ST.mono {M : MS} {a p : Addr} {b c : Nat} {ne : Prop} {L : List D} (h : ST M a p b ne L) (k : c ≤ b) : ST M a p c ne L := ⟨h.fd.mono k, h.ls, h.pa, h.ok, h.ln⟩
theorem law_b2 {a p : Addr} {ps r : List Pt} {w : Int} {b : Nat} {ne : Prop} {L : List D} {De : DEnds} {M : MS} {d0 d2 d3 d8 d9 d10 : Option D} (st : ST M a p (b + 8) ne L) (hL : L.length ≤ 900) (hps : ∀ p, p ∈ ps → PB 1000 p) (lp : ps.length ≤ 20) (hr : ∀ p, p ∈ r → PB 1000 p) (lr : r.length ≤ 20) (hne : ne ↔ ps ≠ []) (hrn : r ≠ [] → ps ≠ []) (hw : 0 ≤ w ∧ w ≤ 12)
    (k : ∀ M' L' d8, ST M' a p b ne L' → L'.length ≤ L.length + 2 → De.nx [d0, some (.ref a), d2, d3, some (.tup (ps.map ePt)), some (.tup (r.map ePt)), some (.ref p), some (.int w), d8, d9, d10] M') :
    tb_law_b2 De [d0, some (.ref a), d2, d3, some (.tup (ps.map ePt)), some (.tup (r.map ePt)), some (.ref p), some (.int w), d8, d9, d10] M := by
  unfold tb_law_b2
  walk_at "dn"
  refine u__law_spoilt (b := b + 5) (B := 1000) (n := 20) (ne := ne) st.fd hw (by decide) (by decide) hps hr lp lr hne hrn fun d o hd fo => ?_
  have t1 := st.draw fo
  have hd' : Thg 2000 100 ne d := hd.up (by decide) (by decide)
  have t2 := t1.push hd' (by omega)
  try walk_at "dn"
  refine ⟨⟨_, t1.ls⟩, _, t1.ls, slt (by omega), ?_⟩
  refine useTT hd.tt ?_
  have fin : De.nx [d0, some (.ref a), d2, d3, some (.tup (ps.map ePt)), some (.tup (r.map ePt)), some (.ref p), some (.int w), some d, d9, d10] (um (um M a o) p (.lst (L ++ [d]))) := k _ _ _ (t2.mono (by omega)) (by rw [List.length_append, List.length_singleton]; omega)
  cases e : isRgB d with
  | false =>
    try walk_at "dn"
    exact fin
  | true =>
    obtain ⟨r2, rfl⟩ := rg_ring e
    obtain ⟨hr2, lr2, hn2⟩ := hd.ring r2 rfl
    try walk_at "dn"
    refine ⟨Nat.zero_le _, eq_tnil (fun p hp => (hr2 p hp).mono (by decide)) (by omega) ?_⟩
    cases hr0 : r2 with
    | nil =>
      rw [hr0] at fin
      simp only [List.isEmpty_nil, Bool.not_true, Bool.false_eq_true, if_false]
      exact fin
    | cons c t =>
      have hne2 : ps ≠ [] := hne.mp (hn2 (by rw [hr0]; simp))
      rw [← hr0]
      simp only [show r2.isEmpty = false by rw [hr0]; rfl, Bool.not_false, if_true]
      try walk_at "dn"
      refine ⟨⟨_, rfl⟩, ?_⟩
      refine u__law_draw (b := b + 4) (by decide) (t2.fd.mono (by omega)) fun x o2 x1 x2 f2 => ?_
      have t3 := t2.draw f2
      try walk_at "dn"
      refine u__law_spoilt (b := b) (B := 1001) (n := 42) (ne := ne) (t3.fd.mono (by omega)) (by omega) (by decide) (by decide) (fun p hp => (hps p hp).mono (by decide)) hr2 (by omega) (by omega) hne (fun _ => hne2) fun d3 o3 hd3 f3 => ?_
      have t4 := t3.draw f3
      refine ⟨_, t4.ls, slt (by rw [List.length_append, List.length_singleton]; omega), ?_⟩
      have t5 := t4.push (hd3.up (by decide) (by decide)) (by rw [List.length_append, List.length_singleton]; omega)
      exact k _ _ _ t5 (by rw [List.length_append, List.length_append, List.length_singleton, List.length_singleton]; omega)
theorem mem_cut' {α : Type} {x : α} {xs : List α} {lo hi : Option Int} (h : x ∈ cut xs lo hi) : x ∈ xs := by
  unfold cut at h
  exact List.mem_of_mem_drop (List.mem_of_mem_take h)
theorem cut_le' {α : Type} (xs : List α) (lo hi : Option Int) : (cut xs lo hi).length ≤ xs.length := by
  unfold cut
  rw [List.length_take, List.length_drop]; omega
theorem law_b1 {a : Addr} {ws : List D} {j : Nat} {b : Nat} {De : DEnds} {M : MS} {d0 d4 d5 d6 d7 d8 d9 d10 : Option D} (hf : Feed M a (b + 400)) (hj : j < 3) (hws : ∀ d, d ∈ ws → ∃ w : Int, d = .int w ∧ 0 ≤ w ∧ w ≤ 12) (hwl : ws.length ≤ 12)
    (k : ∀ M' d4 d5 d6 d7 d8 d10, Feed M' a b → De.nx [d0, some (.ref a), some (.lst ws), some (.int j), d4, d5, d6, d7, d8, d9, d10] M') :
    tb_law_b1 De [d0, some (.ref a), some (.lst ws), some (.int j), d4, d5, d6, d7, d8, d9, d10] M := by
  have hb2 := fun (De : DEnds) (M : MS) (p : Addr) (ps r : List Pt) (w : Int) (b : Nat) (ne : Prop) (L : List D) d8 d10 => law_b2 (a := a) (p := p) (ps := ps) (r := r) (w := w) (b := b) (ne := ne) (L := L) (De := De) (M := M) (d0 := d0) (d2 := some (.lst ws)) (d3 := some (.int j)) (d8 := d8) (d9 := d9) (d10 := d10)
  have hb3 := fun (De : DEnds) (M : MS) (ps : List Pt) (d : D) (n : Nat) (ne : Prop) d5 d6 d7 d10 => law_b3 (ps := ps) (d := d) (n := n) (ne := ne) (De := De) (M := M) (d0 := d0) (d1 := some (.ref a)) (d2 := some (.lst ws)) (d3 := some (.int j)) (d5 := d5) (d6 := d6) (d7 := d7) (d9 := d9) (d10 := d10)
  unfold tb_law_b1
  generalize tb_law_b2 = tb2 at hb2 ⊢
  generalize tb_law_b3 = tb3 at hb3 ⊢
  unfold tb_law_b1_p
  walk_at "dn"
  refine u__law_draw (b := b + 399) (by decide) hf fun x o1 x1 x2 f1 => ?_
  try walk_at "dn"
  refine ⟨by decide, ?_⟩
  refine u__law_draw (b := b + 398) (by decide) (Feed.um f1) fun y o2 y1 y2 f2 => ?_
  try walk_at "dn"
  have pick : ∀ (R : PD) (M : MS), (∀ n : Int, 0 ≤ n ∧ n ≤ 20 → R (.int n) M) → itD [.int x, .int 20] (if y = 0 then 1 else 0) R M := by
    intro R M hk
    by_cases c : y = 0
    · rw [if_pos c]
      exact it_at (x := .int 20) 1 rfl rfl (hk 20 (by decide))
    · rw [if_neg c]
      exact it_at (x := .int x) 0 rfl rfl (hk x (by omega))
  refine pick _ _ fun n hn => ?_
  refine u__law_points (b := b + 200) hn (Feed.um (f2.mono (by omega))) fun ps o3 hps hlen f3 => ?_
  have hok : PBs ps := fun p hp => (hps p hp).mono (by decide)
  have hl : ps.length ≤ 20 := by omega
  try walk_at "dn"
  refine u__law_hull hok (by omega) fun qs hq => ?_
  have ho := hullV_ok hok hq
  have hql : qs.length ≤ ps.length := hq.nd.length_le_of_subset fun x hx => (hq.mem x).mp hx
  generalize hullV qs = r at ho ⊢
  have hr : ∀ p, p ∈ r → PB 1000 p := fun p hp => hps p (ho.1 p hp)
  have hrn : r ≠ [] → ps ≠ [] := fun h e => by
    cases r with
    | nil => exact h rfl
    | cons c t =>
      have := ho.1 c (.head _)
      rw [e] at this
      cases this
  try walk_at "dn"
  refine ⟨by decide, fun p hp => ?_⟩
  have cm : CMulX 4 (j : Int) := (show Bd 3 4 from bd_of (by decide)).cmul (bd_of (n := 3) (by omega)) (by decide) (by decide)
  refine ⟨cm, cm, ?_⟩
  have st0 : ST (um (um M a o3) p (.lst [.tup (r.map ePt)])) a p (b + 200) (ps ≠ []) [.tup (r.map ePt)] := by
    have pa : p ≠ a := fun e => by rw [e, um_same] at hp; cases hp
    exact ⟨⟨o3, by rw [um_ne pa.symm]; exact um_same, f3⟩, um_same, pa, fun d hd => by
      rw [List.mem_singleton.mp hd]
      exact thg_ring (by decide) (by decide) (fun p hp => (hr p hp).mono (by decide)) (by omega) hrn, by show (1 : Nat) ≤ 1000; decide⟩
  refine for_ind (fun its ρ M' => ∃ L d7 d8 d10, (∀ d, d ∈ its → ∃ w : Int, d = .int w ∧ 0 ≤ w ∧ w ≤ 12) ∧ its.length ≤ 12 ∧ L.length + 2 * its.length ≤ 30 ∧ ST M' a p (b + 8 * its.length + 8) (ps ≠ []) L ∧ ρ = [d0, some (.ref a), some (.lst ws), some (.int j), some (.tup (ps.map ePt)), some (.tup (r.map ePt)), some (.ref p), d7, d8, d9, d10]) ?_ ?_ ⟨_, _, _, _, fun d hd => hws d (mem_cut' hd), ?_, ?_, st0.mono ?_, rfl⟩
  · rintro d its ρ M' Kx ⟨L, d7, d8, d10, hits, hl1, hl2, st, rfl⟩ hk
    obtain ⟨w, rfl, hw⟩ := hits d (.head _)
    rw [List.length_cons] at hl1 hl2 st
    walk_at "dn"
    refine hb2 _ M' p ps r w (b + 8 * its.length + 8) (ps ≠ []) L _ _ (st.mono (by omega)) (by omega) hps hl hr (by omega) Iff.rfl hrn hw fun M2 L2 d8 st2 hl3 => ?_
    exact hk _ _ ⟨L2, _, _, _, fun d hd => hits d (.tail _ hd), by omega, by omega, st2, rfl⟩
  · rintro ρ M' ⟨L, d7, d8, d10, hits, hl1, hl2, st, rfl⟩
    rw [List.length_nil] at hl2 st
    walk_at "dn"
    have fdm : Feed (dm M' p) a b := by
      obtain ⟨o, e, f⟩ := st.fd
      refine ⟨o, ?_, f.mono (by omega)⟩
      unfold dm
      rw [if_neg st.pa.symm]
      exact e
    refine ⟨_, st.ls, ?_⟩
    refine for_ind (fun its ρ M3 => M3 = dm M' p ∧ (∀ d, d ∈ its → d ∈ L) ∧ ∃ d8 d10, ρ = [d0, some (.ref a), some (.lst ws), some (.int j), some (.tup (ps.map ePt)), some (.tup (r.map ePt)), some (.ref p), d7, d8, d9, d10]) ?_ ?_ ⟨rfl, fun d hd => hd, _, _, rfl⟩
    · rintro d its ρ M3 Kx ⟨rfl, hits, d8, d10, rfl⟩ hk
      walk_at "dn"
      refine hb3 _ _ ps d 100 (ps ≠ []) _ _ _ _ hok (by omega) (st.ok d (hits d (.head _))) (by decide) fun d10 => ?_
      exact hk _ _ ⟨rfl, fun d hd => hits d (.tail _ hd), _, _, rfl⟩
    · rintro ρ M3 ⟨rfl, hits, d8, d10, rfl⟩
      unfold lockE
      refine k _ _ _ _ _ _ _ ?_
      obtain ⟨o, e, f⟩ := st.fd
      refine ⟨o, ?_, f.mono (by omega)⟩
      rw [um_ne st.pa.symm]
      unfold dm
      rw [if_neg st.pa.symm]
      exact e
  · have := cut_le' ws (some (4 * (j : Int))) (some (4 * (j : Int) + 4))
    omega
  · have := cut_le' ws (some (4 * (j : Int))) (some (4 * (j : Int) + 4))
    simp only [List.length_cons, List.length_nil]
    omega
  · have := cut_le' ws (some (4 * (j : Int))) (some (4 * (j : Int) + 4))
    omega
theorem h_law : Hg g_law tb_law n_law := by
  rintro ds R E M ⟨ns, rfl, hM, k⟩
  unfold tb_law
  have hb1 := fun (De : DEnds) (M : MS) (a : Addr) (ws : List D) (j b : Nat) d0 d4 d5 d6 d7 d8 d9 d10 => law_b1 (a := a) (ws := ws) (j := j) (b := b) (De := De) (M := M) (d0 := d0) (d4 := d4) (d5 := d5) (d6 := d6) (d7 := d7) (d8 := d8) (d9 := d9) (d10 := d10)
  have fin : ∀ (M' : MS) (a : Addr) (ws : List D) d0 d9, Feed M' a 10000 → (∀ d, d ∈ ws → ∃ w : Int, d = .int w ∧ 0 ≤ w ∧ w ≤ 12) → ws.length ≤ 12 → tb_law_c2 (ends R E) [d0, some (.ref a), some (.lst ws), none, none, none, none, none, none, d9, none] M' := fun M' a ws d0 d9 hf hws hwl => by
    unfold tb_law_c2
    generalize tb_law_b1 = tb at hb1 ⊢
    unfold tb_law_c2_p
    walk_at "dn"
    refine ⟨by decide, by decide, ?_⟩
    refine for_rngI (fun j ρ M2 => Feed M2 a (10000 - 2000 * j) ∧ ∃ d3 d4 d5 d6 d7 d8 d10, ρ = [d0, some (.ref a), some (.lst ws), d3, d4, d5, d6, d7, d8, d9, d10]) ?_ ?_ ⟨hf.mono (by omega), _, _, _, _, _, _, _, rfl⟩
    · rintro j hj ρ M2 Kx ⟨hf2, d3, d4, d5, d6, d7, d8, d10, rfl⟩ hk
      have hj : j < 3 := by simpa using hj
      walk_at "dn"
      refine hb1 _ M2 a ws j (10000 - 2000 * (j + 1)) _ _ _ _ _ _ _ _ (hf2.mono (by omega)) hj hws hwl fun M3 d4 d5 d6 d7 d8 d10 hf3 => ?_
      exact hk _ _ ⟨hf3, _, _, _, _, _, _, _, rfl⟩
    · rintro ρ M2 ⟨hf2, d3, d4, d5, d6, d7, d8, d10, rfl⟩
      walk_at "dn"
      exact Rw.of (k _)
  generalize tb_law_c2 = tc at fin ⊢
  unfold tb_law_p
  walk_at "dn"
  refine u__law_feed fun a o ha fo => ?_
  try walk_at "dn"
  refine ⟨by decide, by decide, ?_⟩
  refine lc_ind (fun its acc M' => ∃ o, M' = um M a o ∧ FdO o (10000 + its.length) ∧ acc.length + its.length = 12 ∧ ∀ d, d ∈ acc → ∃ w : Int, d = .int w ∧ 0 ≤ w ∧ w ≤ 12) ?_ ?_ ⟨o, rfl, fo.mono (by rw [rng_len]; decide), by rw [rng_len]; decide, fun d hd => (List.not_mem_nil hd).elim⟩
  · rintro d its acc M' Kx ⟨o, rfl, f, hl, hacc⟩ hk
    rw [List.length_cons] at f hl
    walk_at "dn"
    refine u__law_draw (b := 10000 + its.length) (by decide) (Feed.um f) fun x o2 x1 x2 f2 => ?_
    rw [um_um]
    refine ⟨slt (by omega), hk _ _ ⟨o2, rfl, f2, by rw [List.length_append, List.length_singleton]; omega, fun d hd => ?_⟩⟩
    rcases List.mem_append.mp hd with hd | hd
    · exact hacc d hd
    · exact ⟨x, List.mem_singleton.mp hd, x1, by omega⟩
  · rintro acc M' ⟨o, rfl, f, hl, hacc⟩
    try walk_at "dn"
    rw [List.length_nil] at f hl
    exact fin _ a acc _ _ (Feed.um f) hacc (by omega)
theorem law_holds : gLaw g_law := fun ns h => u_law (fun _ => rfl) fun _ => rfl


def topS (i : Nat) : Stmt := PySem.Challenge.pw_inkcover_k56_hulls_judged.main.body.getD i (.Pass ⟨0, 0, 0, 0⟩)
abbrev s_init_NoPaper : Stmt := clsS (topS 4) 0
theorem sc_init_NoPaper : FnScope ["self", "word", "at"] ["self", "word", "at"] (defScope s_init_NoPaper) := ⟨rfl, rfl, rfl, by decide +kernel, rfl, by decide +kernel, by decide +kernel⟩
theorem xi_NoPaper {K : PySem.W.Frag} {mg : Str → Option Value} {C fI aB : Addr} {fd : FuncData} (F : L2.Fun K "__init__" "NoPaper.__init__" s_init_NoPaper fI fd) (O : Ow K C PySem.OXG.tV "ValueError.__new__") (mB : mg "InkError" = some (.ref aB)) (bB : BaseC K aB "ValueError.__init__") (mC : mg "NoPaper" = some (.ref C)) (nC : PySem.W.nsIn K mainGlobals "NoPaper" = some (some (.ref C))) (iC : PySem.W.findIn K (.ref C) "__init__" = some (some (.ref fI))) (tI : PySem.W.typeIn K (.ref fI) = some (.type "function")) (hno0 : PySem.W.findIn K (.ref C) "word" = some none) (hno1 : PySem.W.findIn K (.ref C) "at" = some none) (P : Program) (w : World) (base : Heap) : XInit P w K mg base "NoPaper" ["word", "at"] :=
  ⟨C, fI, fd, PySem.OXG.tV, "ValueError", "ValueError.__new__", "ValueError.__init__", PySem.F.excBase_ValueError, O, mC, nC, iC, tI, F.binds (fun _ _ _ _ _ _ us hl => match us, hl with | [_, _, _], _ => rfl), Fun.okX (k := 0) F sc_init_NoPaper sp_len (fun cdv A outer s H vs Q E hr h => ⟨_, pss_cons (ps_expr (pe_binit PySem.F.excBase_ValueError rfl mB bB (pa_cons (pv 0) pa_nil))) (pss_cons (ps_fldX PySem.OXG.chV (pv 0) (pv 1)) (pss_one (ps_fldX PySem.OXG.chV (pv 0) (pv 2)))), init2 O hno0 hno1 h⟩)⟩
structure Bi (K : PySem.W.Frag) (mg : Str → Option Value) : Prop where
  b_all : mg "all" = none
  b_bool : mg "bool" = none
  b_enumerate : mg "enumerate" = none
  b_int : mg "int" = none
  b_isinstance : mg "isinstance" = none
  b_len : mg "len" = none
  b_list : mg "list" = none
  b_max : mg "max" = none
  b_min : mg "min" = none
  b_range : mg "range" = none
  b_repr : mg "repr" = none
  b_set : mg "set" = none
  b_sorted : mg "sorted" = none
  b_tuple : mg "tuple" = none
  x_NoPaper : ∀ (P : Program) (w : World) (base : Heap), XInit P w K mg base "NoPaper" ["word", "at"]
  bx : ∀ C ∈ excD, ∀ aC, PySem.W.nsIn K mainGlobals C = some (some (.ref aC)) → ExcC K aC ∧ XfC K aC
  bk_InkError : ∀ C ∈ excD, ∀ aC, PySem.W.nsIn K mainGlobals C = some (some (.ref aC)) → PySem.W.kitOne K (.ref aC) (cvG mg "InkError") = some (subX C "InkError")
  bk_LookupError : ∀ C ∈ excD, ∀ aC, PySem.W.nsIn K mainGlobals C = some (some (.ref aC)) → PySem.W.kitOne K (.ref aC) (cvG mg "LookupError") = some (subX C "LookupError")
  bk_LostError : ∀ C ∈ excD, ∀ aC, PySem.W.nsIn K mainGlobals C = some (some (.ref aC)) → PySem.W.kitOne K (.ref aC) (cvG mg "LostError") = some (subX C "LostError")
  bk_NoCell : ∀ C ∈ excD, ∀ aC, PySem.W.nsIn K mainGlobals C = some (some (.ref aC)) → PySem.W.kitOne K (.ref aC) (cvG mg "NoCell") = some (subX C "NoCell")
  bk_NoExact : ∀ C ∈ excD, ∀ aC, PySem.W.nsIn K mainGlobals C = some (some (.ref aC)) → PySem.W.kitOne K (.ref aC) (cvG mg "NoExact") = some (subX C "NoExact")
  bk_NoLayer : ∀ C ∈ excD, ∀ aC, PySem.W.nsIn K mainGlobals C = some (some (.ref aC)) → PySem.W.kitOne K (.ref aC) (cvG mg "NoLayer") = some (subX C "NoLayer")
  bk_NoName : ∀ C ∈ excD, ∀ aC, PySem.W.nsIn K mainGlobals C = some (some (.ref aC)) → PySem.W.kitOne K (.ref aC) (cvG mg "NoName") = some (subX C "NoName")
  bk_NoPaper : ∀ C ∈ excD, ∀ aC, PySem.W.nsIn K mainGlobals C = some (some (.ref aC)) → PySem.W.kitOne K (.ref aC) (cvG mg "NoPaper") = some (subX C "NoPaper")
  bk_NoRatio : ∀ C ∈ excD, ∀ aC, PySem.W.nsIn K mainGlobals C = some (some (.ref aC)) → PySem.W.kitOne K (.ref aC) (cvG mg "NoRatio") = some (subX C "NoRatio")
  bk_NoRow : ∀ C ∈ excD, ∀ aC, PySem.W.nsIn K mainGlobals C = some (some (.ref aC)) → PySem.W.kitOne K (.ref aC) (cvG mg "NoRow") = some (subX C "NoRow")
  bk_NoSide : ∀ C ∈ excD, ∀ aC, PySem.W.nsIn K mainGlobals C = some (some (.ref aC)) → PySem.W.kitOne K (.ref aC) (cvG mg "NoSide") = some (subX C "NoSide")
  bk_NoStep : ∀ C ∈ excD, ∀ aC, PySem.W.nsIn K mainGlobals C = some (some (.ref aC)) → PySem.W.kitOne K (.ref aC) (cvG mg "NoStep") = some (subX C "NoStep")
  bk_NoText : ∀ C ∈ excD, ∀ aC, PySem.W.nsIn K mainGlobals C = some (some (.ref aC)) → PySem.W.kitOne K (.ref aC) (cvG mg "NoText") = some (subX C "NoText")
  bk_ValueError : ∀ C ∈ excD, ∀ aC, PySem.W.nsIn K mainGlobals C = some (some (.ref aC)) → PySem.W.kitOne K (.ref aC) (cvG mg "ValueError") = some (subX C "ValueError")
  bk_ZeroDivisionError : ∀ C ∈ excD, ∀ aC, PySem.W.nsIn K mainGlobals C = some (some (.ref aC)) → PySem.W.kitOne K (.ref aC) (cvG mg "ZeroDivisionError") = some (subX C "ZeroDivisionError")
  be_InkError : ∀ C ∈ excD, ∀ aC, PySem.W.nsIn K mainGlobals C = some (some (.ref aC)) → PySem.W.exmOne K (.ref aC) (cvG mg "InkError") = some (subX C "InkError")
  be_LostError : ∀ C ∈ excD, ∀ aC, PySem.W.nsIn K mainGlobals C = some (some (.ref aC)) → PySem.W.exmOne K (.ref aC) (cvG mg "LostError") = some (subX C "LostError")
  tn_InkError : TnF mg "InkError"
  tn_LookupError : TnF mg "LookupError"
  tn_LostError : TnF mg "LostError"
  tn_NoCell : TnF mg "NoCell"
  tn_NoExact : TnF mg "NoExact"
  tn_NoLayer : TnF mg "NoLayer"
  tn_NoName : TnF mg "NoName"
  tn_NoPaper : TnF mg "NoPaper"
  tn_NoRatio : TnF mg "NoRatio"
  tn_NoRow : TnF mg "NoRow"
  tn_NoSide : TnF mg "NoSide"
  tn_NoStep : TnF mg "NoStep"
  tn_NoText : TnF mg "NoText"
  tn_ValueError : TnF mg "ValueError"
  tn_ZeroDivisionError : TnF mg "ZeroDivisionError"
  bh_at : ∀ C ∈ excD, ∀ aC, PySem.W.nsIn K mainGlobals C = some (some (.ref aC)) → PySem.W.findIn K (.ref aC) "at" = some none
  bh_cell : ∀ C ∈ excD, ∀ aC, PySem.W.nsIn K mainGlobals C = some (some (.ref aC)) → PySem.W.findIn K (.ref aC) "cell" = some none
  bh_word : ∀ C ∈ excD, ∀ aC, PySem.W.nsIn K mainGlobals C = some (some (.ref aC)) → PySem.W.findIn K (.ref aC) "word" = some none
section
variable {P : Program} {w : World} {K : PySem.W.Frag} {mg : Str → Option Value} {base : Heap}
abbrev s_bend : Stmt := topS 15
theorem sc_bend : FnScope n_bend ["one", "other", "third"] (defScope s_bend) := ⟨rfl, rfl, rfl, by decide +kernel, rfl, by decide +kernel, by decide +kernel⟩
theorem ok_bend (B : Bi K mg) (T : Tx K mg "bend" s_bend)  : Df P w K mg base "bend" ["one", "other", "third"] 1 g_bend :=
  Df.of T sc_bend (fun _ _ _ _ _ _ us hl => match us, hl with | [_, _, _], _ => rfl) l_bend (fun f cdv A outer s H E hr hG =>
  have nd := sc_bend.nd
  (dss_cons (ds_set 3 nd (de_op o_mul (de_op o_sub (de_ix (de_var 1) de_int) (de_ix (de_var 0) de_int)) (de_op o_sub (de_ix (de_var 2) de_int) (de_ix (de_var 1) de_int))))
  (dss_one (ds_ret (de_op o_sub (de_var 3) (de_op o_mul (de_op o_sub (de_ix (de_var 1) de_int) (de_ix (de_var 0) de_int)) (de_op o_sub (de_ix (de_var 2) de_int) (de_ix (de_var 1) de_int)))))))) h_bend
abbrev s_is_number : Stmt := topS 17
theorem sc_is_number : FnScope n_is_number ["thing"] (defScope s_is_number) := ⟨rfl, rfl, rfl, by decide +kernel, rfl, by decide +kernel, by decide +kernel⟩
theorem ok_is_number (B : Bi K mg) (T : Tx K mg "is_number" s_is_number)  : Df P w K mg base "is_number" ["thing"] 1 g_is_number :=
  Df.of T sc_is_number (fun _ _ _ _ _ _ us hl => match us, hl with | [_], _ => rfl) l_is_number (fun f cdv A outer s H E hr hG =>
  have nd := sc_is_number.nd
  (dss_one (ds_ret (de_and (de_callB c_isi B.b_isinstance bt_isinstance (da_cons (de_var 0) (da_cons (de_ty B.b_int bt_int) da_nil))) (de_one (de_not (de_callB c_isi B.b_isinstance bt_isinstance (da_cons (de_var 0) (da_cons (de_ty B.b_bool bt_bool) da_nil))))))))) h_is_number
abbrev s_are_numbers : Stmt := topS 18
theorem sc_are_numbers : FnScope n_are_numbers ["thing", "many"] (defScope s_are_numbers) := ⟨rfl, rfl, rfl, by decide +kernel, rfl, by decide +kernel, by decide +kernel⟩
theorem ok_are_numbers (B : Bi K mg) (T : Tx K mg "are_numbers" s_are_numbers) (d_is_number : Df P w K mg base "is_number" ["thing"] 1 g_is_number) : Df P w K mg base "are_numbers" ["thing", "many"] 2 g_are_numbers :=
  Df.of T sc_are_numbers (fun _ _ _ _ _ _ us hl => match us, hl with | [_, _], _ => rfl) l_are_numbers (fun f cdv A outer s H E hr hG =>
  have nd := sc_are_numbers.nd
  (dss_one (ds_ret (de_and (de_callB c_isi B.b_isinstance bt_isinstance (da_cons (de_var 0) (da_cons (de_ty B.b_tuple bt_tuple) da_nil))) (de_and (de_cmp (o_eq hr.units) (de_callB c_len B.b_len bt_len (da_cons (de_var 0) da_nil)) (de_var 1)) (de_one (de_callB (c_all rfl) B.b_all bt_all (da_cons (de_lc (own := [("one", 2)]) rfl nd (di_items (de_var 0)) (blkOk_by (by show blkC n_are_numbers (defScope s_are_numbers) _ _ = true; decide +kernel)) (by decide) (fun _ _ _ _ _ => (dg_nm 2 nd)) (fun _ _ _ _ _ => dts_nil) (fun _ _ _ _ _ => (de_call d_is_number (hr.mono (by decide)) hG takes0 (da_cons (de_var 2) da_nil)))) da_nil)))))))) h_are_numbers
abbrev s_is_point : Stmt := topS 20
theorem sc_is_point : FnScope n_is_point ["thing"] (defScope s_is_point) := ⟨rfl, rfl, rfl, by decide +kernel, rfl, by decide +kernel, by decide +kernel⟩
theorem ok_is_point (B : Bi K mg) (T : Tx K mg "is_point" s_is_point) (d_are_numbers : Df P w K mg base "are_numbers" ["thing", "many"] 2 g_are_numbers) : Df P w K mg base "is_point" ["thing"] 3 g_is_point :=
  Df.of T sc_is_point (fun _ _ _ _ _ _ us hl => match us, hl with | [_], _ => rfl) l_is_point (fun f cdv A outer s H E hr hG =>
  have nd := sc_is_point.nd
  (dss_one (ds_ret (de_call d_are_numbers (hr.mono (by decide)) hG (takes_of rfl rfl rfl rfl) (da_cons (de_var 0) (da_cons de_int da_nil)))))) h_is_point
abbrev s_is_ring : Stmt := topS 21
theorem sc_is_ring : FnScope n_is_ring ["thing"] (defScope s_is_ring) := ⟨rfl, rfl, rfl, by decide +kernel, rfl, by decide +kernel, by decide +kernel⟩
theorem ok_is_ring (B : Bi K mg) (T : Tx K mg "is_ring" s_is_ring) (d_is_point : Df P w K mg base "is_point" ["thing"] 3 g_is_point) : Df P w K mg base "is_ring" ["thing"] 4 g_is_ring :=
  Df.of T sc_is_ring (fun _ _ _ _ _ _ us hl => match us, hl with | [_], _ => rfl) l_is_ring (fun f cdv A outer s H E hr hG =>
  have nd := sc_is_ring.nd
  (dss_one (ds_ret (de_and (de_callB c_isi B.b_isinstance bt_isinstance (da_cons (de_var 0) (da_cons (de_ty B.b_tuple bt_tuple) da_nil))) (de_one (de_callB (c_all rfl) B.b_all bt_all (da_cons (de_lc (own := [("one", 1)]) rfl nd (di_items (de_var 0)) (blkOk_by (by show blkC n_is_ring (defScope s_is_ring) _ _ = true; decide +kernel)) (by decide) (fun _ _ _ _ _ => (dg_nm 1 nd)) (fun _ _ _ _ _ => dts_nil) (fun _ _ _ _ _ => (de_call d_is_point (hr.mono (by decide)) hG takes0 (da_cons (de_var 1) da_nil)))) da_nil))))))) h_is_ring
abbrev s_ask_corners : Stmt := topS 23
theorem sc_ask_corners : FnScope n_ask_corners ["points", "thing"] (defScope s_ask_corners) := ⟨rfl, rfl, rfl, by decide +kernel, rfl, by decide +kernel, by decide +kernel⟩
theorem ok_ask_corners (B : Bi K mg) (T : Tx K mg "ask_corners" s_ask_corners)  : Df P w K mg base "ask_corners" ["points", "thing"] 3 g_ask_corners :=
  Df.of T sc_ask_corners (fun _ _ _ _ _ _ us hl => match us, hl with | [_, _], _ => rfl) l_ask_corners (fun f cdv A outer s H E hr hG =>
  have nd := sc_ask_corners.nd
  (dss_one (ds_for (passes_of rfl) rfl (di_enum B.b_enumerate (da_cons (de_var 1) da_nil)) (dg_tup rfl (dgs_cons (dg_nm 2 nd) (dgs_cons (dg_nm 3 nd) dgs_nil)) (pl_of 2)) (dss_one (ds_if (PW.pt (dw_or (dt_cmp (o_notinT (room65 hr)) (de_var 3) (de_var 0)) (dw_or1 (dt_cmp (o_inT (room65 hr)) (de_var 3) (de_slice (de_var 1) do_none (do_some (de_var 2))))))) (dss_one (ds_raise (B.x_NoPaper _ _ _) rfl (hr.mono (by decide)) (takes_of rfl rfl rfl rfl) (da_cons de_str (da_cons (de_var 2) da_nil)))) dss_nil))))) h_ask_corners
abbrev s_is_between : Stmt := topS 24
theorem sc_is_between : FnScope n_is_between ["point", "thing"] (defScope s_is_between) := ⟨rfl, rfl, rfl, by decide +kernel, rfl, by decide +kernel, by decide +kernel⟩
theorem ok_is_between (B : Bi K mg) (T : Tx K mg "is_between" s_is_between) (d_bend : Df P w K mg base "bend" ["one", "other", "third"] 1 g_bend) : Df P w K mg base "is_between" ["point", "thing"] 2 g_is_between :=
  Df.of T sc_is_between (fun _ _ _ _ _ _ us hl => match us, hl with | [_, _], _ => rfl) l_is_between (fun f cdv A outer s H E hr hG =>
  have nd := sc_is_between.nd
  (dss_cons (ds_if (dt_cmp (o_eq hr.units) (de_var 1) (de_tup da_nil)) (dss_one (ds_ret de_bl)) dss_nil)
  (dss_cons (ds_asg (de_tup (da_cons (de_ix (de_var 1) de_int) (da_cons (de_ix (de_var 1) (de_un o_neg de_int)) da_nil))) (dg_tup rfl (dgs_cons (dg_nm 2 nd) (dgs_cons (dg_nm 3 nd) dgs_nil)) (pl_of 2)))
  (dss_cons (ds_if (dt_cmp (o_ne hr.units) (de_call d_bend (hr.mono (by decide)) hG (takes_of rfl rfl rfl rfl) (da_cons (de_var 2) (da_cons (de_var 3) (da_cons (de_var 0) da_nil)))) de_int) (dss_one (ds_ret de_bl)) dss_nil)
  (dss_one (ds_ret (de_callB (c_all rfl) B.b_all bt_all (da_cons (de_lc (own := [("j", 4)]) rfl nd (di_items (de_tup (da_cons de_int (da_cons de_int da_nil)))) (blkOk_by (by show blkC n_is_between (defScope s_is_between) _ _ = true; decide +kernel)) (by decide) (fun _ _ _ _ _ => (dg_nm 4 nd)) (fun _ _ _ _ _ => dts_nil) (fun _ _ _ _ _ => (de_chain o_le o_le (de_callB (c_min rfl) B.b_min bt_min (da_cons (de_ix (de_var 2) (de_var 4)) (da_cons (de_ix (de_var 3) (de_var 4)) da_nil))) (de_ix (de_var 0) (de_var 4)) (de_callB (c_max rfl) B.b_max bt_max (da_cons (de_ix (de_var 2) (de_var 4)) (da_cons (de_ix (de_var 3) (de_var 4)) da_nil)))))) da_nil)))))))) h_is_between
abbrev s_ask_few : Stmt := topS 25
theorem sc_ask_few : FnScope n_ask_few ["points", "thing"] (defScope s_ask_few) := ⟨rfl, rfl, rfl, by decide +kernel, rfl, by decide +kernel, by decide +kernel⟩
theorem ok_ask_few (B : Bi K mg) (T : Tx K mg "ask_few" s_ask_few) (d_is_between : Df P w K mg base "is_between" ["point", "thing"] 2 g_is_between) : Df P w K mg base "ask_few" ["points", "thing"] 3 g_ask_few :=
  Df.of T sc_ask_few (fun _ _ _ _ _ _ us hl => match us, hl with | [_, _], _ => rfl) l_ask_few (fun f cdv A outer s H E hr hG =>
  have nd := sc_ask_few.nd
  (dss_one (ds_for (passes_of rfl) rfl (di_enum B.b_enumerate (da_cons (de_var 0) da_nil)) (dg_tup rfl (dgs_cons (dg_nm 2 nd) (dgs_cons (dg_nm 3 nd) dgs_nil)) (pl_of 2)) (dss_one (ds_if (dt_not (dt_tru (de_call d_is_between (hr.mono (by decide)) hG (takes_of rfl rfl rfl rfl) (da_cons (de_var 3) (da_cons (de_var 1) da_nil))))) (dss_one (ds_raise (B.x_NoPaper _ _ _) rfl (hr.mono (by decide)) (takes_of rfl rfl rfl rfl) (da_cons de_str (da_cons (de_var 2) da_nil)))) dss_nil))))) h_ask_few
abbrev s_ask_many : Stmt := topS 26
theorem sc_ask_many : FnScope n_ask_many ["points", "thing"] (defScope s_ask_many) := ⟨rfl, rfl, rfl, by decide +kernel, rfl, by decide +kernel, by decide +kernel⟩
theorem ok_ask_many (B : Bi K mg) (T : Tx K mg "ask_many" s_ask_many) (d_bend : Df P w K mg base "bend" ["one", "other", "third"] 1 g_bend) : Df P w K mg base "ask_many" ["points", "thing"] 3 g_ask_many :=
  Df.of T sc_ask_many (fun _ _ _ _ _ _ us hl => match us, hl with | [_, _], _ => rfl) l_ask_many (fun f cdv A outer s H E hr hG =>
  have nd := sc_ask_many.nd
  (dss_cons (ds_set 2 nd (de_callB c_len B.b_len bt_len (da_cons (de_var 1) da_nil)))
  (dss_cons (ds_for (passes_of rfl) rfl (di_rng1 B.b_range (da_cons (de_var 2) da_nil)) (dg_nm 3 nd) (dss_one (ds_if (dt_cmp o_ge (de_call d_bend (hr.mono (by decide)) hG (takes_of rfl rfl rfl rfl) (da_cons (de_ix (de_var 1) (de_var 3)) (da_cons (de_ix (de_var 1) (de_op o_mod (de_op o_add (de_var 3) de_int) (de_var 2))) (da_cons (de_ix (de_var 1) (de_op o_mod (de_op o_add (de_var 3) de_int) (de_var 2))) da_nil)))) de_int) (dss_one (ds_raise (B.x_NoPaper _ _ _) rfl (hr.mono (by decide)) (takes_of rfl rfl rfl rfl) (da_cons de_str (da_cons (de_var 3) da_nil)))) dss_nil)))
  (dss_one (ds_for (passes_of rfl) rfl (di_rng1 B.b_range (da_cons (de_var 2) da_nil)) (dg_nm 3 nd) (dss_one (ds_for (passes_of rfl) rfl (di_enum B.b_enumerate (da_cons (de_var 0) da_nil)) (dg_tup rfl (dgs_cons (dg_nm 4 nd) (dgs_cons (dg_nm 5 nd) dgs_nil)) (pl_of 2)) (dss_one (ds_if (dt_cmp o_gt (de_call d_bend (hr.mono (by decide)) hG (takes_of rfl rfl rfl rfl) (da_cons (de_ix (de_var 1) (de_var 3)) (da_cons (de_ix (de_var 1) (de_op o_mod (de_op o_add (de_var 3) de_int) (de_var 2))) (da_cons (de_var 5) da_nil)))) de_int) (dss_one (ds_raise (B.x_NoPaper _ _ _) rfl (hr.mono (by decide)) (takes_of rfl rfl rfl rfl) (da_cons de_str (da_cons (de_tup (da_cons (de_var 3) (da_cons (de_var 4) da_nil))) da_nil)))) dss_nil))))))))) h_ask_many
abbrev s_lets_hull : Stmt := topS 27
theorem sc_lets_hull : FnScope n_lets_hull ["points", "thing"] (defScope s_lets_hull) := ⟨rfl, rfl, rfl, by decide +kernel, rfl, by decide +kernel, by decide +kernel⟩
theorem ok_lets_hull (B : Bi K mg) (T : Tx K mg "lets_hull" s_lets_hull) (d_ask_corners : Df P w K mg base "ask_corners" ["points", "thing"] 3 g_ask_corners) (d_is_ring : Df P w K mg base "is_ring" ["thing"] 4 g_is_ring) (d_ask_few : Df P w K mg base "ask_few" ["points", "thing"] 3 g_ask_few) (d_ask_many : Df P w K mg base "ask_many" ["points", "thing"] 3 g_ask_many) : Df P w K mg base "lets_hull" ["points", "thing"] 5 g_lets_hull :=
  Df.of T sc_lets_hull (fun _ _ _ _ _ _ us hl => match us, hl with | [_, _], _ => rfl) l_lets_hull (fun f cdv A outer s H E hr hG =>
  have nd := sc_lets_hull.nd
  (dss_cons (ds_if (dt_not (dt_tru (de_call d_is_ring (hr.mono (by decide)) hG (takes_of rfl rfl rfl rfl) (da_cons (de_var 1) da_nil)))) (dss_one (ds_raise (B.x_NoPaper _ _ _) rfl (hr.mono (by decide)) (takes_of rfl rfl rfl rfl) (da_cons de_str (da_cons (de_un o_neg de_int) da_nil)))) dss_nil)
  (dss_cons (ds_expr (de_call d_ask_corners (hr.mono (by decide)) hG (takes_of rfl rfl rfl rfl) (da_cons (de_var 0) (da_cons (de_var 1) da_nil))))
  (dss_cons (ds_if (dt_cmp o_lt (de_callB c_len B.b_len bt_len (da_cons (de_var 1) da_nil)) de_int) (dss_one (ds_expr (de_call d_ask_few (hr.mono (by decide)) hG (takes_of rfl rfl rfl rfl) (da_cons (de_var 0) (da_cons (de_var 1) da_nil))))) (dss_one (ds_expr (de_call d_ask_many (hr.mono (by decide)) hG (takes_of rfl rfl rfl rfl) (da_cons (de_var 0) (da_cons (de_var 1) da_nil))))))
  (dss_cons (ds_if (PW.pt (dw_and (dt_cmp (o_ne hr.units) (de_var 1) (de_tup da_nil)) (dw_and1 (dt_cmp (o_ne hr.units) (de_ix (de_var 1) de_int) (de_callB (c_minT rfl hr.units) B.b_min bt_min (da_cons (de_var 0) da_nil)))))) (dss_one (ds_raise (B.x_NoPaper _ _ _) rfl (hr.mono (by decide)) (takes_of rfl rfl rfl rfl) (da_cons de_str (da_cons (de_un o_neg de_int) da_nil)))) dss_nil)
  (dss_one (ds_ret de_bl))))))) h_lets_hull
abbrev s__law_feed : Stmt := topS 29
theorem sc__law_feed : FnScope n__law_feed ["script"] (defScope s__law_feed) := ⟨rfl, rfl, rfl, by decide +kernel, rfl, by decide +kernel, by decide +kernel⟩
theorem ok__law_feed (B : Bi K mg) (T : Tx K mg "_law_feed" s__law_feed)  : Df P w K mg base "_law_feed" ["script"] 1 g__law_feed :=
  Df.of T sc__law_feed (fun _ _ _ _ _ _ us hl => match us, hl with | [_], _ => rfl) l__law_feed (fun f cdv A outer s H E hr hG =>
  have nd := sc__law_feed.nd
  (dss_one (ds_ret (de_disp (ppd_cons (k := .inr "cells") de_str (de_callT c_lst B.b_list bt_list (da_cons (de_slice (de_var 0) do_none (do_some de_int)) da_nil)) (ppd_cons (k := .inr "at") de_str de_int (ppd_cons (k := .inr "left") de_str de_int (ppd_cons (k := .inr "turn") de_str de_int ppd_nil)))) (by decide) (by show (4 : Nat) ≤ 15; decide))))) h__law_feed
abbrev s__law_draw : Stmt := topS 30
theorem sc__law_draw : FnScope n__law_draw ["feed", "many"] (defScope s__law_draw) := ⟨rfl, rfl, rfl, by decide +kernel, rfl, by decide +kernel, by decide +kernel⟩
theorem ok__law_draw (B : Bi K mg) (T : Tx K mg "_law_draw" s__law_draw)  : Df P w K mg base "_law_draw" ["feed", "many"] 1 g__law_draw :=
  Df.of T sc__law_draw (fun _ _ _ _ _ _ us hl => match us, hl with | [_, _], _ => rfl) l__law_draw (fun f cdv A outer s H E hr hG =>
  have nd := sc__law_draw.nd
  (dss_cons (ds_set 2 nd (de_op o_add (de_getK (room1 hr) (de_var 0) de_str (fun _ _ => rfl)) de_int))
  (dss_cons (ds_putK (room1 hr) (de_var 2) (de_var 0) de_str)
  (dss_cons (ds_if (dt_cmp o_gt (de_getK (room1 hr) (de_var 0) de_str (fun _ _ => rfl)) de_int) (dss_cons (ds_set 6 nd (de_op o_mod (de_getK (room1 hr) (de_var 0) de_str (fun _ _ => rfl)) (de_var 1)))
  (dss_cons (ds_putK (room1 hr) (de_op o_fdiv (de_getK (room1 hr) (de_var 0) de_str (fun _ _ => rfl)) (de_var 1)) (de_var 0) de_str)
  (dss_one (ds_ret (de_var 6))))) dss_nil)
  (dss_cons (ds_set 3 nd (de_getK (room1 hr) (de_var 0) de_str (fun _ _ => rfl)))
  (dss_cons (ds_putK (room1 hr) (de_op o_add (de_var 3) de_int) (de_var 0) de_str)
  (dss_cons (ds_set 4 nd de_int)
  (dss_cons (ds_if (dt_cmp (o_ne hr.units) (de_getK (room1 hr) (de_var 0) de_str (fun _ _ => rfl)) (de_lst da_nil)) (dss_one (ds_set 4 nd (de_ix (de_getK (room1 hr) (de_var 0) de_str (fun _ _ => rfl)) (de_op o_mod (de_var 3) (de_callB c_len B.b_len bt_len (da_cons (de_getK (room1 hr) (de_var 0) de_str (fun _ _ => rfl)) da_nil)))))) dss_nil)
  (dss_cons (ds_if (PW.pt (dw_and (dt_cmp o_ge (de_var 4) (de_op o_pow de_int de_int)) (dw_and1 (dt_cmp o_lt (de_var 3) (de_callB c_len B.b_len bt_len (da_cons (de_getK (room1 hr) (de_var 0) de_str (fun _ _ => rfl)) da_nil)))))) (dss_cons (ds_putK (room1 hr) (de_op o_fdiv (de_var 4) (de_var 1)) (de_var 0) de_str)
  (dss_one (ds_ret (de_op o_mod (de_var 4) (de_var 1))))) dss_nil)
  (dss_cons (ds_set 5 nd (de_op o_mod (de_op o_pow (de_op o_add (de_op o_add (de_op o_mod (de_var 4) de_int) (de_op o_mul de_int (de_var 2))) de_int) de_int) de_int))
  (dss_cons (ds_set 5 nd (de_op o_mod (de_op o_pow (de_op o_add (de_var 5) (de_op o_mul de_int (de_var 2))) de_int) de_int))
  (dss_one (ds_ret (de_op o_mod (de_op o_fdiv (de_var 5) de_int) (de_var 1))))))))))))))) h__law_draw
abbrev s__law_points : Stmt := topS 31
theorem sc__law_points : FnScope n__law_points ["feed", "many"] (defScope s__law_points) := ⟨rfl, rfl, rfl, by decide +kernel, rfl, by decide +kernel, by decide +kernel⟩
theorem ok__law_points (B : Bi K mg) (T : Tx K mg "_law_points" s__law_points) (d__law_draw : Df P w K mg base "_law_draw" ["feed", "many"] 1 g__law_draw) : Df P w K mg base "_law_points" ["feed", "many"] 2 g__law_points :=
  Df.of T sc__law_points (fun _ _ _ _ _ _ us hl => match us, hl with | [_, _], _ => rfl) l__law_points (fun f cdv A outer s H E hr hG =>
  have nd := sc__law_points.nd
  (dss_cons (ds_set 2 nd (de_call d__law_draw (hr.mono (by decide)) hG (takes_of rfl rfl rfl rfl) (da_cons (de_var 0) (da_cons de_int da_nil))))
  (dss_cons (ds_par 5 6 rfl nd (da_cons (de_op o_sub (de_call d__law_draw (hr.mono (by decide)) hG (takes_of rfl rfl rfl rfl) (da_cons (de_var 0) (da_cons de_int da_nil))) de_int) (da_cons (de_op o_sub (de_call d__law_draw (hr.mono (by decide)) hG (takes_of rfl rfl rfl rfl) (da_cons (de_var 0) (da_cons de_int da_nil))) de_int) da_nil)))
  (dss_cons (ds_set 3 nd (de_lstN da_nil))
  (dss_cons (ds_for (passes_of rfl) rfl (di_rng1 B.b_range (da_cons (de_var 1) da_nil)) (dg_nm 4 nd) (dss_cons (ds_par 7 8 rfl nd (da_cons (de_call d__law_draw (hr.mono (by decide)) hG (takes_of rfl rfl rfl rfl) (da_cons (de_var 0) (da_cons de_int da_nil))) (da_cons (de_call d__law_draw (hr.mono (by decide)) hG (takes_of rfl rfl rfl rfl) (da_cons (de_var 0) (da_cons de_int da_nil))) da_nil)))
  (dss_cons (ds_if (dt_cmp (o_eq hr.units) (de_var 2) de_int) (dss_one (ds_set 8 nd (de_op o_mul (de_call d__law_draw (hr.mono (by decide)) hG (takes_of rfl rfl rfl rfl) (da_cons (de_var 0) (da_cons de_int da_nil))) de_int))) dss_nil)
  (dss_cons (ds_if (dt_cmp (o_eq hr.units) (de_var 2) de_int) (dss_one (ds_par 7 8 rfl nd (da_cons (de_op o_add (de_op o_mul (de_var 5) (de_var 7)) de_int) (da_cons (de_op o_sub (de_op o_mul (de_var 6) (de_var 7)) de_int) da_nil)))) dss_nil)
  (dss_cons (ds_if (dt_cmp (o_eq hr.units) (de_var 2) de_int) (dss_one (ds_par 7 8 rfl nd (da_cons (de_op o_sub de_int (de_call d__law_draw (hr.mono (by decide)) hG (takes_of rfl rfl rfl rfl) (da_cons (de_var 0) (da_cons de_int da_nil)))) (da_cons (de_op o_sub de_int (de_call d__law_draw (hr.mono (by decide)) hG (takes_of rfl rfl rfl rfl) (da_cons (de_var 0) (da_cons de_int da_nil)))) da_nil)))) dss_nil)
  (dss_cons (ds_if (dt_cmp (o_eq hr.units) (de_var 2) de_int) (dss_one (ds_asg (de_ix (de_lst (da_cons (de_tup (da_cons de_int (da_cons de_int da_nil))) (da_cons (de_tup (da_cons de_int (da_cons de_int da_nil))) (da_cons (de_tup (da_cons de_int (da_cons de_int da_nil))) (da_cons (de_tup (da_cons de_int (da_cons de_int da_nil))) (da_cons (de_tup (da_cons de_int (da_cons de_int da_nil))) (da_cons (de_tup (da_cons de_int (da_cons de_int da_nil))) (da_cons (de_tup (da_cons de_int (da_cons de_int da_nil))) (da_cons (de_tup (da_cons de_int (da_cons de_int da_nil))) da_nil))))))))) (de_call d__law_draw (hr.mono (by decide)) hG (takes_of rfl rfl rfl rfl) (da_cons (de_var 0) (da_cons de_int da_nil)))) (dg_tup rfl (dgs_cons (dg_nm 7 nd) (dgs_cons (dg_nm 8 nd) dgs_nil)) (pl_of 2)))) dss_nil)
  (dss_one (ds_expr (de_mtL PySem.F.slot_list_append PySem.F.type_list_append m_append (de_var 3) (da_cons (de_tup (da_cons (de_var 7) (da_cons (de_var 8) da_nil))) da_nil))))))))))
  (dss_one (ds_ret (de_var 3)))))))) h__law_points
abbrev s__law_hand : Stmt := topS 32
theorem sc__law_hand : FnScope n__law_hand ["one", "other", "third"] (defScope s__law_hand) := ⟨rfl, rfl, rfl, by decide +kernel, rfl, by decide +kernel, by decide +kernel⟩
theorem ok__law_hand (B : Bi K mg) (T : Tx K mg "_law_hand" s__law_hand)  : Df P w K mg base "_law_hand" ["one", "other", "third"] 1 g__law_hand :=
  Df.of T sc__law_hand (fun _ _ _ _ _ _ us hl => match us, hl with | [_, _, _], _ => rfl) l__law_hand (fun f cdv A outer s H E hr hG =>
  have nd := sc__law_hand.nd
  (dss_cons (ds_set 3 nd (de_op o_mul (de_op o_sub (de_ix (de_var 1) de_int) (de_ix (de_var 0) de_int)) (de_op o_sub (de_ix (de_var 2) de_int) (de_ix (de_var 1) de_int))))
  (dss_one (ds_ret (de_op o_sub (de_var 3) (de_op o_mul (de_op o_sub (de_ix (de_var 1) de_int) (de_ix (de_var 0) de_int)) (de_op o_sub (de_ix (de_var 2) de_int) (de_ix (de_var 1) de_int)))))))) h__law_hand
abbrev s__law_is_edge : Stmt := topS 33
theorem sc__law_is_edge : FnScope n__law_is_edge ["points", "one", "other"] (defScope s__law_is_edge) := ⟨rfl, rfl, rfl, by decide +kernel, rfl, by decide +kernel, by decide +kernel⟩
theorem ok__law_is_edge (B : Bi K mg) (T : Tx K mg "_law_is_edge" s__law_is_edge) (d__law_hand : Df P w K mg base "_law_hand" ["one", "other", "third"] 1 g__law_hand) : Df P w K mg base "_law_is_edge" ["points", "one", "other"] 2 g__law_is_edge :=
  Df.of T sc__law_is_edge (fun _ _ _ _ _ _ us hl => match us, hl with | [_, _, _], _ => rfl) l__law_is_edge (fun f cdv A outer s H E hr hG =>
  have nd := sc__law_is_edge.nd
  (dss_cons (ds_for (passes_of rfl) rfl (di_items (de_var 0)) (dg_nm 3 nd) (dss_cons (ds_set 4 nd (de_call d__law_hand (hr.mono (by decide)) hG (takes_of rfl rfl rfl rfl) (da_cons (de_var 1) (da_cons (de_var 2) (da_cons (de_var 3) da_nil)))))
  (dss_cons (ds_if (dt_cmp o_gt (de_var 4) de_int) (dss_one (ds_ret de_bl)) dss_nil)
  (dss_one (ds_if (dt_cmp (o_eq hr.units) (de_var 4) de_int) (dss_one (ds_for (passes_of rfl) rfl (di_items (de_tup (da_cons de_int (da_cons de_int da_nil)))) (dg_nm 5 nd) (dss_one (ds_if (dt_not (dt_chain o_le o_le (de_callB (c_min rfl) B.b_min bt_min (da_cons (de_ix (de_var 1) (de_var 5)) (da_cons (de_ix (de_var 2) (de_var 5)) da_nil))) (de_ix (de_var 3) (de_var 5)) (de_callB (c_max rfl) B.b_max bt_max (da_cons (de_ix (de_var 1) (de_var 5)) (da_cons (de_ix (de_var 2) (de_var 5)) da_nil))))) (dss_one (ds_ret de_bl)) dss_nil)))) dss_nil)))))
  (dss_one (ds_ret de_bl)))) h__law_is_edge
abbrev s__law_hull : Stmt := topS 34
theorem sc__law_hull : FnScope n__law_hull ["points"] (defScope s__law_hull) := ⟨rfl, rfl, rfl, by decide +kernel, rfl, by decide +kernel, by decide +kernel⟩
theorem ok__law_hull (B : Bi K mg) (T : Tx K mg "_law_hull" s__law_hull) (d__law_is_edge : Df P w K mg base "_law_is_edge" ["points", "one", "other"] 2 g__law_is_edge) : Df P w K mg base "_law_hull" ["points"] 3 g__law_hull :=
  Df.of T sc__law_hull (fun _ _ _ _ _ _ us hl => match us, hl with | [_], _ => rfl) l__law_hull (fun f cdv A outer s H E hr hG =>
  have nd := sc__law_hull.nd
  (dss_cons (ds_set 1 nd (de_sortSetU rfl (room64 hr) (de_var 0) B.b_sorted B.b_set))
  (dss_cons (ds_if (dt_cmp o_lt (de_callB c_len B.b_len bt_len (da_cons (de_var 1) da_nil)) de_int) (dss_one (ds_ret (de_callT c_tup B.b_tuple bt_tuple (da_cons (de_var 1) da_nil)))) dss_nil)
  (dss_cons (ds_asg (de_tup (da_cons (de_lstN da_nil) (da_cons (de_ix (de_var 1) de_int) da_nil))) (dg_tup rfl (dgs_cons (dg_nm 2 nd) (dgs_cons (dg_nm 3 nd) dgs_nil)) (pl_of 2)))
  (dss_cons (ds_while (passes_of rfl) (dt_cmp (o_notin (room65 hr)) (de_var 3) (de_var 2)) (dss_cons (ds_expr (de_mtL PySem.F.slot_list_append PySem.F.type_list_append m_append (de_var 2) (da_cons (de_var 3) da_nil)))
  (dss_one (ds_set 3 nd (de_ix (de_lc (own := [("other", 4)]) rfl nd (di_items (de_var 1)) (blkOk_by (by show blkC n__law_hull (defScope s__law_hull) _ _ = true; decide +kernel)) (by decide) (fun _ _ _ _ _ => (dg_nm 4 nd)) (fun _ _ _ _ _ => (dts_one (PW.pt (dw_and (dt_cmp (o_ne hr.units) (de_var 4) (de_var 3)) (dw_and1 (dt_tru (de_call d__law_is_edge (hr.mono (by decide)) hG takes0 (da_cons (de_var 1) (da_cons (de_var 3) (da_cons (de_var 4) da_nil)))))))))) (fun _ _ _ _ _ => (de_var 4))) de_int)))))
  (dss_one (ds_ret (de_callT c_tup B.b_tuple bt_tuple (da_cons (de_var 2) da_nil))))))))) h__law_hull
abbrev s__law_word : Stmt := topS 35
theorem sc__law_word : FnScope n__law_word ["e"] (defScope s__law_word) := ⟨rfl, rfl, rfl, by decide +kernel, rfl, by decide +kernel, by decide +kernel⟩
theorem ok__law_word (B : Bi K mg) (T : Tx K mg "_law_word" s__law_word) : ∀ (C : Str), C ∈ excD → ∀ (aC xa xd : Addr) (oe : Obj), PySem.W.nsIn K mainGlobals C = some (some (.ref aC)) → Zc (.ref aC) (some xd) oe → (∃ vs, oe.data = .fields vs) → DfX P w K mg base "_law_word" ["e"] 1 (gX (tb__law_word C xa xd) n__law_word xa) xa oe := fun C hC aC xa xd oe hns hz hf =>
  DfX.of T sc__law_word (fun _ _ _ _ _ _ us hl => match us, hl with | [_], _ => rfl) (fun f cdv A outer s H hr hG =>
  have nd := sc__law_word.nd
  (dss_cons (ds_set 1 nd (de_lst (da_cons (de_isX 0 B.b_isinstance hz hf (B.bx C hC aC hns).1 (B.bk_NoPaper C hC aC hns) B.tn_NoPaper.1 B.tn_NoPaper.2) (da_cons (de_isX 0 B.b_isinstance hz hf (B.bx C hC aC hns).1 (B.bk_NoCell C hC aC hns) B.tn_NoCell.1 B.tn_NoCell.2) da_nil))))
  (dss_cons (ds_set 2 nd (de_isXT 0 B.b_isinstance hz hf (B.bx C hC aC hns).1 (TN.cons rfl B.tn_NoExact.1 B.tn_NoExact.2 (by decide) (TN.cons rfl B.tn_NoLayer.1 B.tn_NoLayer.2 (by decide) (TN.cons rfl B.tn_NoName.1 B.tn_NoName.2 (by decide) (TN.cons rfl B.tn_NoRatio.1 B.tn_NoRatio.2 (by decide) (TN.cons rfl B.tn_NoRow.1 B.tn_NoRow.2 (by decide) (TN.cons rfl B.tn_NoSide.1 B.tn_NoSide.2 (by decide) (TN.cons rfl B.tn_NoStep.1 B.tn_NoStep.2 (by decide) (TN.cons rfl B.tn_NoText.1 B.tn_NoText.2 (by decide) TN.nil rfl) rfl) rfl) rfl) rfl) rfl) rfl) rfl) (kitAny_cons (B.bk_NoExact C hC aC hns) (kitAny_cons (B.bk_NoLayer C hC aC hns) (kitAny_cons (B.bk_NoName C hC aC hns) (kitAny_cons (B.bk_NoRatio C hC aC hns) (kitAny_cons (B.bk_NoRow C hC aC hns) (kitAny_cons (B.bk_NoSide C hC aC hns) (kitAny_cons (B.bk_NoStep C hC aC hns) (kitAny_cons (B.bk_NoText C hC aC hns) kitAny_nil)))))))) (by show (8 : Nat) ≤ sizeLine; decide)))
  (dss_cons (ds_if (PW.pt (dw_or (dt_tru (de_var 2)) (dw_or (dt_cmp (o_ne hr.units) (de_mtL PySem.F.slot_list_count PySem.F.type_list_count m_count (de_var 1) (da_cons de_bl da_nil)) de_int) (dw_or1 (dt_cmp (o_eq hr.units) (de_isX 0 B.b_isinstance hz hf (B.bx C hC aC hns).1 (B.bk_InkError C hC aC hns) B.tn_InkError.1 B.tn_InkError.2) (de_isX 0 B.b_isinstance hz hf (B.bx C hC aC hns).1 (B.bk_LostError C hC aC hns) B.tn_LostError.1 B.tn_LostError.2)))))) (dss_one (ds_ret (de_tup (da_cons de_str da_nil)))) dss_nil)
  (dss_cons (ds_if (PW.pt (dw_or (dt_cmp (o_ne hr.units) (de_isX 0 B.b_isinstance hz hf (B.bx C hC aC hns).1 (B.bk_InkError C hC aC hns) B.tn_InkError.1 B.tn_InkError.2) (de_ix (de_var 1) de_int)) (dw_or1 (dt_cmp (o_ne hr.units) (de_isX 0 B.b_isinstance hz hf (B.bx C hC aC hns).1 (B.bk_ValueError C hC aC hns) B.tn_ValueError.1 B.tn_ValueError.2) (de_ix (de_var 1) de_int))))) (dss_one (ds_ret (de_tup (da_cons de_str da_nil)))) dss_nil)
  (dss_cons (ds_if (PW.pt (dw_or (dt_cmp (o_eq hr.units) (de_isX 0 B.b_isinstance hz hf (B.bx C hC aC hns).1 (B.bk_LookupError C hC aC hns) B.tn_LookupError.1 B.tn_LookupError.2) (de_ix (de_var 1) de_int)) (dw_or1 (dt_tru (de_isX 0 B.b_isinstance hz hf (B.bx C hC aC hns).1 (B.bk_ZeroDivisionError C hC aC hns) B.tn_ZeroDivisionError.1 B.tn_ZeroDivisionError.2))))) (dss_one (ds_ret (de_tup (da_cons de_str da_nil)))) dss_nil)
  (dss_one (ds_ret (de_ifExp (dt_tru (de_ix (de_var 1) de_int)) (de_tup (da_cons (de_fldX (B.bx C hC aC hns).2 (B.bh_word C hC aC hns) hz hf (de_var 0)) (da_cons (de_fldX (B.bx C hC aC hns).2 (B.bh_at C hC aC hns) hz hf (de_var 0)) da_nil))) (de_tup (da_cons de_str (da_cons (de_fldX (B.bx C hC aC hns).2 (B.bh_cell C hC aC hns) hz hf (de_var 0)) da_nil))))))))))))
abbrev s__law_is_ring : Stmt := topS 36
theorem sc__law_is_ring : FnScope n__law_is_ring ["thing"] (defScope s__law_is_ring) := ⟨rfl, rfl, rfl, by decide +kernel, rfl, by decide +kernel, by decide +kernel⟩
theorem ok__law_is_ring (B : Bi K mg) (T : Tx K mg "_law_is_ring" s__law_is_ring)  : Df P w K mg base "_law_is_ring" ["thing"] 1 g__law_is_ring :=
  Df.of T sc__law_is_ring (fun _ _ _ _ _ _ us hl => match us, hl with | [_], _ => rfl) l__law_is_ring (fun f cdv A outer s H E hr hG =>
  have nd := sc__law_is_ring.nd
  (dss_cons (ds_if (dt_not (dt_tru (de_callB c_isi B.b_isinstance bt_isinstance (da_cons (de_var 0) (da_cons (de_ty B.b_tuple bt_tuple) da_nil))))) (dss_one (ds_ret de_bl)) dss_nil)
  (dss_cons (ds_for (passes_of rfl) rfl (di_items (de_var 0)) (dg_nm 1 nd) (dss_cons (ds_if (PW.pt (dw_or (dt_not (dt_tru (de_callB c_isi B.b_isinstance bt_isinstance (da_cons (de_var 1) (da_cons (de_ty B.b_tuple bt_tuple) da_nil))))) (dw_or1 (dt_cmp (o_ne hr.units) (de_callB c_len B.b_len bt_len (da_cons (de_var 1) da_nil)) de_int)))) (dss_one (ds_ret de_bl)) dss_nil)
  (dss_one (ds_if (dt_cmp (o_ne hr.units) (de_lc (own := [("x", 2)]) rfl nd (di_items (de_var 1)) (blkOk_by (by show blkC n__law_is_ring (defScope s__law_is_ring) _ _ = true; decide +kernel)) (by decide) (fun _ _ _ _ _ => (dg_nm 2 nd)) (fun _ _ _ _ _ => (dts_one (PW.pt (dw_or (dt_not (dt_tru (de_callB c_isi B.b_isinstance bt_isinstance (da_cons (de_var 2) (da_cons (de_ty B.b_int bt_int) da_nil))))) (dw_or1 (dt_tru (de_callB c_isi B.b_isinstance bt_isinstance (da_cons (de_var 2) (da_cons (de_ty B.b_bool bt_bool) da_nil))))))))) (fun _ _ _ _ _ => (de_var 2))) (de_lst da_nil)) (dss_one (ds_ret de_bl)) dss_nil))))
  (dss_one (ds_ret de_bl))))) h__law_is_ring
abbrev s__law_is_between : Stmt := topS 37
theorem sc__law_is_between : FnScope n__law_is_between ["point", "thing"] (defScope s__law_is_between) := ⟨rfl, rfl, rfl, by decide +kernel, rfl, by decide +kernel, by decide +kernel⟩
theorem ok__law_is_between (B : Bi K mg) (T : Tx K mg "_law_is_between" s__law_is_between) (d__law_hand : Df P w K mg base "_law_hand" ["one", "other", "third"] 1 g__law_hand) : Df P w K mg base "_law_is_between" ["point", "thing"] 2 g__law_is_between :=
  Df.of T sc__law_is_between (fun _ _ _ _ _ _ us hl => match us, hl with | [_, _], _ => rfl) l__law_is_between (fun f cdv A outer s H E hr hG =>
  have nd := sc__law_is_between.nd
  (dss_cons (ds_if (PW.pt (dw_or (dt_cmp (o_eq hr.units) (de_var 1) (de_tup da_nil)) (dw_or1 (dt_cmp (o_ne hr.units) (de_call d__law_hand (hr.mono (by decide)) hG (takes_of rfl rfl rfl rfl) (da_cons (de_ix (de_var 1) de_int) (da_cons (de_ix (de_var 1) (de_un o_neg de_int)) (da_cons (de_var 0) da_nil)))) de_int)))) (dss_one (ds_ret de_bl)) dss_nil)
  (dss_cons (ds_for (passes_of rfl) rfl (di_items (de_tup (da_cons de_int (da_cons de_int da_nil)))) (dg_nm 2 nd) (dss_one (ds_if (dt_not (dt_chain o_le o_le (de_callB (c_min rfl) B.b_min bt_min (da_cons (de_ix (de_ix (de_var 1) de_int) (de_var 2)) (da_cons (de_ix (de_ix (de_var 1) (de_un o_neg de_int)) (de_var 2)) da_nil))) (de_ix (de_var 0) (de_var 2)) (de_callB (c_max rfl) B.b_max bt_max (da_cons (de_ix (de_ix (de_var 1) de_int) (de_var 2)) (da_cons (de_ix (de_ix (de_var 1) (de_un o_neg de_int)) (de_var 2)) da_nil))))) (dss_one (ds_ret de_bl)) dss_nil)))
  (dss_one (ds_ret de_bl))))) h__law_is_between
abbrev s__law_ought : Stmt := topS 38
theorem sc__law_ought : FnScope n__law_ought ["points", "thing"] (defScope s__law_ought) := ⟨rfl, rfl, rfl, by decide +kernel, rfl, by decide +kernel, by decide +kernel⟩
theorem ok__law_ought (B : Bi K mg) (T : Tx K mg "_law_ought" s__law_ought) (d__law_is_ring : Df P w K mg base "_law_is_ring" ["thing"] 1 g__law_is_ring) (d__law_hand : Df P w K mg base "_law_hand" ["one", "other", "third"] 1 g__law_hand) (d__law_is_between : Df P w K mg base "_law_is_between" ["point", "thing"] 2 g__law_is_between) : Df P w K mg base "_law_ought" ["points", "thing"] 3 g__law_ought :=
  Df.of T sc__law_ought (fun _ _ _ _ _ _ us hl => match us, hl with | [_, _], _ => rfl) l__law_ought (fun f cdv A outer s H E hr hG =>
  have nd := sc__law_ought.nd
  (dss_cons (ds_if (dt_not (dt_tru (de_call d__law_is_ring (hr.mono (by decide)) hG (takes_of rfl rfl rfl rfl) (da_cons (de_var 1) da_nil)))) (dss_one (ds_ret (de_tup (da_cons de_str (da_cons (de_un o_neg de_int) da_nil))))) dss_nil)
  (dss_cons (ds_set 2 nd (de_callB c_len B.b_len bt_len (da_cons (de_var 1) da_nil)))
  (dss_cons (ds_for (passes_of rfl) rfl (di_rng1 B.b_range (da_cons (de_var 2) da_nil)) (dg_nm 3 nd) (dss_one (ds_if (PW.pt (dw_or (dt_cmp (o_notinT (room65 hr)) (de_ix (de_var 1) (de_var 3)) (de_var 0)) (dw_or1 (dt_cmp (o_inT (room65 hr)) (de_ix (de_var 1) (de_var 3)) (de_slice (de_var 1) do_none (do_some (de_var 3))))))) (dss_one (ds_ret (de_tup (da_cons de_str (da_cons (de_var 3) da_nil))))) dss_nil)))
  (dss_cons (ds_if (dt_cmp o_lt (de_var 2) de_int) (dss_one (ds_for (passes_of rfl) rfl (di_rng1 B.b_range (da_cons (de_callB c_len B.b_len bt_len (da_cons (de_var 0) da_nil)) da_nil)) (dg_nm 4 nd) (dss_one (ds_if (dt_not (dt_tru (de_call d__law_is_between (hr.mono (by decide)) hG (takes_of rfl rfl rfl rfl) (da_cons (de_ix (de_var 0) (de_var 4)) (da_cons (de_var 1) da_nil))))) (dss_one (ds_ret (de_tup (da_cons de_str (da_cons (de_var 4) da_nil))))) dss_nil)))) dss_nil)
  (dss_cons (ds_for (passes_of rfl) rfl (di_rng1 B.b_range (da_cons (de_ifExp (dt_cmp o_gt (de_var 2) de_int) (de_var 2) de_int) da_nil)) (dg_nm 3 nd) (dss_one (ds_if (dt_cmp o_ge (de_call d__law_hand (hr.mono (by decide)) hG (takes_of rfl rfl rfl rfl) (da_cons (de_ix (de_var 1) (de_var 3)) (da_cons (de_ix (de_var 1) (de_op o_mod (de_op o_add (de_var 3) de_int) (de_var 2))) (da_cons (de_ix (de_var 1) (de_op o_mod (de_op o_add (de_var 3) de_int) (de_var 2))) da_nil)))) de_int) (dss_one (ds_ret (de_tup (da_cons de_str (da_cons (de_var 3) da_nil))))) dss_nil)))
  (dss_cons (ds_for (passes_of rfl) rfl (di_rng1 B.b_range (da_cons (de_ifExp (dt_cmp o_gt (de_var 2) de_int) (de_var 2) de_int) da_nil)) (dg_nm 3 nd) (dss_one (ds_for (passes_of rfl) rfl (di_rng1 B.b_range (da_cons (de_callB c_len B.b_len bt_len (da_cons (de_var 0) da_nil)) da_nil)) (dg_nm 4 nd) (dss_one (ds_if (dt_cmp o_gt (de_call d__law_hand (hr.mono (by decide)) hG (takes_of rfl rfl rfl rfl) (da_cons (de_ix (de_var 1) (de_var 3)) (da_cons (de_ix (de_var 1) (de_op o_mod (de_op o_add (de_var 3) de_int) (de_var 2))) (da_cons (de_ix (de_var 0) (de_var 4)) da_nil)))) de_int) (dss_one (ds_ret (de_tup (da_cons de_str (da_cons (de_tup (da_cons (de_var 3) (da_cons (de_var 4) da_nil))) da_nil))))) dss_nil)))))
  (dss_cons (ds_if (PW.pt (dw_and (dt_cmp o_gt (de_var 2) de_int) (dw_and1 (dt_cmp (o_ne hr.units) (de_lc (own := [("point", 5)]) rfl nd (di_items (de_var 0)) (blkOk_by (by show blkC n__law_ought (defScope s__law_ought) _ _ = true; decide +kernel)) (by decide) (fun _ _ _ _ _ => (dg_nm 5 nd)) (fun _ _ _ _ _ => (dts_one (dt_cmp (o_ltT (room64 hr)) (de_var 5) (de_ix (de_var 1) de_int)))) (fun _ _ _ _ _ => (de_var 5))) (de_lst da_nil))))) (dss_one (ds_ret (de_tup (da_cons de_str (da_cons (de_un o_neg de_int) da_nil))))) dss_nil)
  (dss_one (ds_ret (de_tup (da_cons de_str (da_cons de_bl da_nil))))))))))))) h__law_ought
abbrev s__law_said : Stmt := topS 39
theorem sc__law_said : FnScope n__law_said ["points", "thing"] (defScope s__law_said) := ⟨rfl, rfl, rfl, by decide +kernel, rfl, by decide +kernel, by decide +kernel⟩
theorem ok__law_said (B : Bi K mg) (T : Tx K mg "_law_said" s__law_said) (d_lets_hull : Df P w K mg base "lets_hull" ["points", "thing"] 5 g_lets_hull) (d__law_word : ∀ (C : Str), C ∈ excD → ∀ (aC xa xd : Addr) (oe : Obj), PySem.W.nsIn K mainGlobals C = some (some (.ref aC)) → Zc (.ref aC) (some xd) oe → (∃ vs, oe.data = .fields vs) → DfX P w K mg base "_law_word" ["e"] 1 (gX (tb__law_word C xa xd) n__law_word xa) xa oe) : Df P w K mg base "_law_said" ["points", "thing"] 6 g__law_said :=
  Df.of T sc__law_said (fun _ _ _ _ _ _ us hl => match us, hl with | [_, _], _ => rfl) l__law_said (fun f cdv A outer s H E hr hG =>
  have nd := sc__law_said.nd
  (dss_cons (ds_set 2 nd (de_tup (da_cons de_str da_nil)))
  (dss_cons (ds_tryT (Ds := excD) (catches := (fun C => subX C "InkError" || (subX C "LostError" || (false)))) 3 nd rfl rfl (takes_of rfl rfl rfl rfl) (fun C hC aC hns => tst2 (B.tn_InkError.names rfl (by decide)) (B.tn_LostError.names rfl (by decide)) (exm_any2 (B.be_InkError C hC aC hns) (B.be_LostError C hC aC hns))) (fun W pn xe tk pw => (dss_one (ds_set 2 nd (de_tup (da_cons de_str (da_cons (de_call d_lets_hull (hr.mono (by decide)) hG tk (da_cons (de_var 0) (da_cons (de_var 1) da_nil))) da_nil)))))) (fun C hC aC xa xd oe pn hns hz hf => (dss_one (ds_set 2 nd (de_callX (d__law_word C hC aC xa xd oe hns hz hf) (hr.mono (by decide)) hG (da_cons (de_var 3) da_nil))))))
  (dss_one (ds_ret (de_var 2)))))) h__law_said
abbrev s__law_spoilt : Stmt := topS 40
theorem sc__law_spoilt : FnScope n__law_spoilt ["feed", "points", "ring", "way"] (defScope s__law_spoilt) := ⟨rfl, rfl, rfl, by decide +kernel, rfl, by decide +kernel, by decide +kernel⟩
theorem ok__law_spoilt (B : Bi K mg) (T : Tx K mg "_law_spoilt" s__law_spoilt) (d__law_draw : Df P w K mg base "_law_draw" ["feed", "many"] 1 g__law_draw) : Df P w K mg base "_law_spoilt" ["feed", "points", "ring", "way"] 2 g__law_spoilt :=
  Df.of T sc__law_spoilt (fun _ _ _ _ _ _ us hl => match us, hl with | [_, _, _, _], _ => rfl) l__law_spoilt (fun f cdv A outer s H E hr hG =>
  have nd := sc__law_spoilt.nd
  (dss_cons (ds_set 4 nd (de_lst (da_cons de_non (da_cons (de_tup da_nil) (da_cons (de_tup (da_cons (de_tup da_nil) da_nil)) (da_cons (de_lst (da_cons (de_callT c_lst B.b_list bt_list (da_cons (de_var 2) da_nil)) da_nil)) (da_cons de_str (da_cons (de_tup (da_cons (de_tup (da_cons de_str (da_cons de_int da_nil))) da_nil)) (da_cons (de_tup (da_cons (de_tup (da_cons de_bl (da_cons de_int da_nil))) da_nil)) (da_cons (de_tup (da_cons (de_tup (da_cons de_int (da_cons de_int (da_cons de_int da_nil)))) da_nil)) (da_cons de_int da_nil)))))))))))
  (dss_cons (ds_if (PW.pt (dw_or (dt_cmp (o_eq hr.units) (de_var 2) (de_tup da_nil)) (dw_or1 (dt_cmp (o_eq hr.units) (de_var 3) de_int)))) (dss_one (ds_ret (de_ix (de_var 4) (de_call d__law_draw (hr.mono (by decide)) hG (takes_of rfl rfl rfl rfl) (da_cons (de_var 0) (da_cons de_int da_nil)))))) dss_nil)
  (dss_cons (ds_par 6 7 rfl nd (da_cons (de_call d__law_draw (hr.mono (by decide)) hG (takes_of rfl rfl rfl rfl) (da_cons (de_var 0) (da_cons (de_callB c_len B.b_len bt_len (da_cons (de_var 2) da_nil)) da_nil))) (da_cons (de_ix (de_var 1) (de_call d__law_draw (hr.mono (by decide)) hG (takes_of rfl rfl rfl rfl) (da_cons (de_var 0) (da_cons (de_callB c_len B.b_len bt_len (da_cons (de_var 1) da_nil)) da_nil)))) da_nil)))
  (dss_cons (ds_if (dt_cmp (o_eq hr.units) (de_var 3) de_int) (dss_one (ds_ret (de_op o_add (de_slice (de_var 2) do_none (do_some (de_var 6))) (de_slice (de_var 2) (do_some (de_op o_add (de_var 6) de_int)) do_none)))) dss_nil)
  (dss_cons (ds_if (dt_cmp (o_eq hr.units) (de_var 3) de_int) (dss_one (ds_ret (de_op o_add (de_op o_add (de_slice (de_var 2) do_none (do_some (de_var 6))) (de_slice (de_var 2) (do_some (de_var 6)) (do_some (de_op o_add (de_var 6) de_int)))) (de_slice (de_var 2) (do_some (de_var 6)) do_none)))) dss_nil)
  (dss_cons (ds_if (dt_cmp (o_eq hr.units) (de_var 3) de_int) (dss_one (ds_ret (de_op o_add (de_op o_add (de_slice (de_var 2) do_none (do_some (de_var 6))) (de_tup (da_cons (de_var 7) da_nil))) (de_slice (de_var 2) (do_some (de_op o_add (de_var 6) de_int)) do_none)))) dss_nil)
  (dss_cons (ds_if (dt_cmp (o_eq hr.units) (de_var 3) de_int) (dss_one (ds_ret (de_op o_add (de_op o_add (de_slice (de_var 2) do_none (do_some (de_var 6))) (de_tup (da_cons (de_var 7) da_nil))) (de_slice (de_var 2) (do_some (de_var 6)) do_none)))) dss_nil)
  (dss_cons (ds_if (dt_cmp (o_eq hr.units) (de_var 3) de_int) (dss_one (ds_ret (de_op o_add (de_slice (de_var 2) (do_some (de_var 6)) do_none) (de_slice (de_var 2) do_none (do_some (de_var 6)))))) dss_nil)
  (dss_cons (ds_set 5 nd (de_lstN (da_cons (de_rev (de_var 2)) (da_cons (de_op o_add (de_pick (de_var 2) (lo := none) (k := 2) ⟨fun pins s σ H Q I h => po_none.run pins s σ H Q I h⟩) (de_pick (de_var 2) (k := 2) (po_cst (c := 1)))) (da_cons (de_callT c_lst B.b_list bt_list (da_cons (de_var 2) da_nil)) (da_cons (de_callT c_tup B.b_tuple bt_tuple (da_cons (de_var 1) da_nil)) (da_cons (de_callT c_tup B.b_tuple bt_tuple (da_cons (de_callB c_sortedTP B.b_sorted bt_sorted (da_cons (de_var 2) da_nil)) da_nil)) da_nil)))))))
  (dss_cons (ds_expr (de_mtL PySem.F.slot_list_append PySem.F.type_list_append m_append (de_var 5) (da_cons (de_op o_add (de_op o_add (de_slice (de_var 2) do_none (do_some (de_var 6))) (de_tup (da_cons (de_callT c_lst B.b_list bt_list (da_cons (de_ix (de_var 2) (de_var 6)) da_nil)) da_nil))) (de_slice (de_var 2) (do_some (de_op o_add (de_var 6) de_int)) do_none)) da_nil)))
  (dss_cons (ds_expr (de_mtL PySem.F.slot_list_append PySem.F.type_list_append m_append (de_var 5) (da_cons (de_op o_add (de_op o_add (de_slice (de_var 2) do_none (do_some (de_var 6))) (de_tup (da_cons (de_tup (da_cons (de_op o_add (de_ix (de_ix (de_var 2) (de_var 6)) de_int) de_int) (da_cons (de_ix (de_ix (de_var 2) (de_var 6)) de_int) da_nil))) da_nil))) (de_slice (de_var 2) (do_some (de_op o_add (de_var 6) de_int)) do_none)) da_nil)))
  (dss_one (ds_ret (de_ix (de_var 5) (de_op o_sub (de_var 3) de_int)))))))))))))))) h__law_spoilt
abbrev s_law : Stmt := topS 41
theorem sc_law : FnScope n_law ["script"] (defScope s_law) := ⟨rfl, rfl, rfl, by decide +kernel, rfl, by decide +kernel, by decide +kernel⟩
theorem ok_law (B : Bi K mg) {f : Addr} {fd : FuncData} (F : L2.Fun K "law" "law" s_law f fd) (d__law_feed : Df P w K mg base "_law_feed" ["script"] 1 g__law_feed) (d__law_draw : Df P w K mg base "_law_draw" ["feed", "many"] 1 g__law_draw) (d__law_hull : Df P w K mg base "_law_hull" ["points"] 3 g__law_hull) (d__law_points : Df P w K mg base "_law_points" ["feed", "many"] 2 g__law_points) (d__law_spoilt : Df P w K mg base "_law_spoilt" ["feed", "points", "ring", "way"] 2 g__law_spoilt) (d__law_is_ring : Df P w K mg base "_law_is_ring" ["thing"] 1 g__law_is_ring) (d__law_said : Df P w K mg base "_law_said" ["points", "thing"] 6 g__law_said) (d__law_ought : Df P w K mg base "_law_ought" ["points", "thing"] 3 g__law_ought) : FnD P w K mg base 7 f fd ["script"] g_law :=
  FnD.of F sc_law l_law (fun cdv A outer s H E hr hG =>
  have nd := sc_law.nd
  (dss_cons (ds_set 1 nd (de_call d__law_feed (hr.mono (by decide)) hG (takes_of rfl rfl rfl rfl) (da_cons (de_var 0) da_nil)))
  (dss_cons (ds_setLc 2 (own := [("k", 9)]) rfl nd (di_rng1 B.b_range (da_cons de_int da_nil)) (blkOk_by (by show blkC n_law (defScope s_law) _ _ = true; decide +kernel)) (by decide) (fun _ _ _ _ _ => (dg_nm 9 nd)) (fun _ _ _ _ _ => dts_nil) (fun _ _ _ _ _ => (de_call d__law_draw (hr.mono (by decide)) hG takes0 (da_cons (de_var 1) (da_cons de_int da_nil)))))
  (dss_cons (ds_for (passes_of rfl) rfl (di_rng1 B.b_range (da_cons de_int da_nil)) (dg_nm 3 nd) (dss_cons (ds_set 4 nd (de_callT c_tup B.b_tuple bt_tuple (da_cons (de_call d__law_points (hr.mono (by decide)) hG (takes_of rfl rfl rfl rfl) (da_cons (de_var 1) (da_cons (de_ix (de_lst (da_cons (de_call d__law_draw (hr.mono (by decide)) hG (takes_of rfl rfl rfl rfl) (da_cons (de_var 1) (da_cons de_int da_nil))) (da_cons de_int da_nil))) (de_callT c_int B.b_int bt_int (da_cons (de_cmp (o_eq hr.units) (de_call d__law_draw (hr.mono (by decide)) hG (takes_of rfl rfl rfl rfl) (da_cons (de_var 1) (da_cons de_int da_nil))) de_int) da_nil))) da_nil))) da_nil)))
  (dss_cons (ds_set 5 nd (de_call d__law_hull (hr.mono (by decide)) hG (takes_of rfl rfl rfl rfl) (da_cons (de_var 4) da_nil)))
  (dss_cons (ds_set 6 nd (de_lstN (da_cons (de_var 5) da_nil)))
  (dss_cons (ds_for (passes_of rfl) rfl (di_items (de_slice (de_var 2) (do_some (de_op o_mul de_int (de_var 3))) (do_some (de_op o_add (de_op o_mul de_int (de_var 3)) de_int)))) (dg_nm 7 nd) (dss_cons (ds_set 8 nd (de_call d__law_spoilt (hr.mono (by decide)) hG (takes_of rfl rfl rfl rfl) (da_cons (de_var 1) (da_cons (de_var 4) (da_cons (de_var 5) (da_cons (de_var 7) da_nil))))))
  (dss_cons (ds_expr (de_mtL PySem.F.slot_list_append PySem.F.type_list_append m_append (de_var 6) (da_cons (de_var 8) da_nil)))
  (dss_one (ds_if (PW.pt (dw_and (dt_tru (de_call d__law_is_ring (hr.mono (by decide)) hG (takes_of rfl rfl rfl rfl) (da_cons (de_var 8) da_nil))) (dw_and1 (dt_cmp (o_ne hr.units) (de_var 8) (de_tup da_nil))))) (dss_one (ds_expr (de_mtL PySem.F.slot_list_append PySem.F.type_list_append m_append (de_var 6) (da_cons (de_call d__law_spoilt (hr.mono (by decide)) hG (takes_of rfl rfl rfl rfl) (da_cons (de_var 1) (da_cons (de_var 4) (da_cons (de_var 8) (da_cons (de_op o_add de_int (de_call d__law_draw (hr.mono (by decide)) hG (takes_of rfl rfl rfl rfl) (da_cons (de_var 1) (da_cons de_int da_nil)))) da_nil))))) da_nil)))) dss_nil)))))
  (dss_one (ds_forL 6 (passes_of rfl) rfl (dg_nm 8 nd) (dss_cons (ds_set 10 nd (de_callB (c_repr hG hr.units) B.b_repr bt_repr (da_cons (de_tup (da_cons (de_var 4) (da_cons (de_var 8) da_nil))) da_nil)))
  (dss_cons (ds_if (dt_cmp (o_ne hr.units) (de_callB (c_repr hG hr.units) B.b_repr bt_repr (da_cons (de_call d__law_said (hr.mono (by decide)) hG (takes_of rfl rfl rfl rfl) (da_cons (de_var 4) (da_cons (de_var 8) da_nil))) da_nil)) (de_callB (c_repr hG hr.units) B.b_repr bt_repr (da_cons (de_call d__law_ought (hr.mono (by decide)) hG (takes_of rfl rfl rfl rfl) (da_cons (de_var 4) (da_cons (de_var 8) da_nil))) da_nil))) (dss_one (ds_ret de_bl)) dss_nil)
  (dss_one (ds_if (dt_cmp (o_ne hr.units) (de_callB (c_repr hG hr.units) B.b_repr bt_repr (da_cons (de_tup (da_cons (de_var 4) (da_cons (de_var 8) da_nil))) da_nil)) (de_var 10)) (dss_one (ds_ret de_bl)) dss_nil)))))))))))
  (dss_one (ds_ret de_bl)))))) h_law
end
theorem all_mk {P : Program} {w : World} {K : PySem.W.Frag} {h : Heap} {mg : Str → Option Value} {fa : Addr} (X : K.In h) (G : h.Ns mainGlobals mg) (hfa : mg "law" = some (.ref fa))
    {f0 f1 f2 f3 f4 f5 f6 f7 f8 f9 f10 f11 f12 f13 f14 f15 f16 f17 f18 f19 f20 f21 f22 : Addr}
    {od0 an0 od1 an1 od2 an2 od3 an3 od4 an4 od5 an5 od6 an6 od7 an7 od8 an8 od9 an9 od10 an10 od11 an11 od12 an12 od13 an13 od14 an14 od15 an15 od16 an16 od17 an17 od18 an18 od19 an19 od20 an20 od21 an21 od22 an22 : Option Addr} {sl0 sl1 sl2 sl3 sl4 sl5 sl6 sl7 sl8 sl9 sl10 sl11 sl12 sl13 sl14 sl15 sl16 sl17 sl18 sl19 sl20 sl21 sl22 : Array (Option Value)}
    {oc0 kV0 dc0 pm0 ct0 cd0 oc1 kV1 dc1 pm1 ct1 cd1 oc2 kV2 dc2 pm2 ct2 cd2 oc3 kV3 dc3 pm3 ct3 cd3 oc4 kV4 dc4 pm4 ct4 cd4 oc5 kV5 dc5 pm5 ct5 cd5 oc6 kV6 dc6 pm6 ct6 cd6 oc7 kV7 dc7 pm7 ct7 cd7 oc8 kV8 dc8 pm8 ct8 cd8 oc9 kV9 dc9 pm9 ct9 cd9 oc10 kV10 dc10 pm10 ct10 cd10 oc11 kV11 dc11 pm11 ct11 cd11 oc12 kV12 dc12 pm12 ct12 cd12 oc13 kV13 dc13 pm13 ct13 cd13 oc14 kV14 dc14 pm14 ct14 cd14 oc15 kV15 dc15 pm15 ct15 cd15 oc16 kV16 dc16 pm16 ct16 cd16 oc17 kV17 dc17 pm17 ct17 cd17 oc18 kV18 dc18 pm18 ct18 cd18 oc19 kV19 dc19 pm19 ct19 cd19 oc20 kV20 dc20 pm20 ct20 cd20 oc21 kV21 dc21 pm21 ct21 cd21 oc22 kV22 dc22 pm22 ct22 cd22 : Value}
    (a0 : PySem.W.nsIn K mainGlobals "bend" = some (some (.ref f0))) (l0 : K.lookup f0 = some ⟨oc0, od0, .func (PySem.W.fnOf "bend" "bend" (defArgs s_bend) (defBody s_bend) (defScope s_bend) .none kV0 dc0 pm0 an0 cd0 ct0), sl0⟩) (c0 : PySem.W.codeIn K cd0 "bend" = true) (k0 : PySem.W.keepIn K (.ref f0) = true)
    (a1 : PySem.W.nsIn K mainGlobals "is_number" = some (some (.ref f1))) (l1 : K.lookup f1 = some ⟨oc1, od1, .func (PySem.W.fnOf "is_number" "is_number" (defArgs s_is_number) (defBody s_is_number) (defScope s_is_number) .none kV1 dc1 pm1 an1 cd1 ct1), sl1⟩) (c1 : PySem.W.codeIn K cd1 "is_number" = true) (k1 : PySem.W.keepIn K (.ref f1) = true)
    (a2 : PySem.W.nsIn K mainGlobals "are_numbers" = some (some (.ref f2))) (l2 : K.lookup f2 = some ⟨oc2, od2, .func (PySem.W.fnOf "are_numbers" "are_numbers" (defArgs s_are_numbers) (defBody s_are_numbers) (defScope s_are_numbers) .none kV2 dc2 pm2 an2 cd2 ct2), sl2⟩) (c2 : PySem.W.codeIn K cd2 "are_numbers" = true) (k2 : PySem.W.keepIn K (.ref f2) = true)
    (a3 : PySem.W.nsIn K mainGlobals "is_point" = some (some (.ref f3))) (l3 : K.lookup f3 = some ⟨oc3, od3, .func (PySem.W.fnOf "is_point" "is_point" (defArgs s_is_point) (defBody s_is_point) (defScope s_is_point) .none kV3 dc3 pm3 an3 cd3 ct3), sl3⟩) (c3 : PySem.W.codeIn K cd3 "is_point" = true) (k3 : PySem.W.keepIn K (.ref f3) = true)
    (a4 : PySem.W.nsIn K mainGlobals "is_ring" = some (some (.ref f4))) (l4 : K.lookup f4 = some ⟨oc4, od4, .func (PySem.W.fnOf "is_ring" "is_ring" (defArgs s_is_ring) (defBody s_is_ring) (defScope s_is_ring) .none kV4 dc4 pm4 an4 cd4 ct4), sl4⟩) (c4 : PySem.W.codeIn K cd4 "is_ring" = true) (k4 : PySem.W.keepIn K (.ref f4) = true)
    (a5 : PySem.W.nsIn K mainGlobals "ask_corners" = some (some (.ref f5))) (l5 : K.lookup f5 = some ⟨oc5, od5, .func (PySem.W.fnOf "ask_corners" "ask_corners" (defArgs s_ask_corners) (defBody s_ask_corners) (defScope s_ask_corners) .none kV5 dc5 pm5 an5 cd5 ct5), sl5⟩) (c5 : PySem.W.codeIn K cd5 "ask_corners" = true) (k5 : PySem.W.keepIn K (.ref f5) = true)
    (a6 : PySem.W.nsIn K mainGlobals "is_between" = some (some (.ref f6))) (l6 : K.lookup f6 = some ⟨oc6, od6, .func (PySem.W.fnOf "is_between" "is_between" (defArgs s_is_between) (defBody s_is_between) (defScope s_is_between) .none kV6 dc6 pm6 an6 cd6 ct6), sl6⟩) (c6 : PySem.W.codeIn K cd6 "is_between" = true) (k6 : PySem.W.keepIn K (.ref f6) = true)
    (a7 : PySem.W.nsIn K mainGlobals "ask_few" = some (some (.ref f7))) (l7 : K.lookup f7 = some ⟨oc7, od7, .func (PySem.W.fnOf "ask_few" "ask_few" (defArgs s_ask_few) (defBody s_ask_few) (defScope s_ask_few) .none kV7 dc7 pm7 an7 cd7 ct7), sl7⟩) (c7 : PySem.W.codeIn K cd7 "ask_few" = true) (k7 : PySem.W.keepIn K (.ref f7) = true)
    (a8 : PySem.W.nsIn K mainGlobals "ask_many" = some (some (.ref f8))) (l8 : K.lookup f8 = some ⟨oc8, od8, .func (PySem.W.fnOf "ask_many" "ask_many" (defArgs s_ask_many) (defBody s_ask_many) (defScope s_ask_many) .none kV8 dc8 pm8 an8 cd8 ct8), sl8⟩) (c8 : PySem.W.codeIn K cd8 "ask_many" = true) (k8 : PySem.W.keepIn K (.ref f8) = true)
    (a9 : PySem.W.nsIn K mainGlobals "lets_hull" = some (some (.ref f9))) (l9 : K.lookup f9 = some ⟨oc9, od9, .func (PySem.W.fnOf "lets_hull" "lets_hull" (defArgs s_lets_hull) (defBody s_lets_hull) (defScope s_lets_hull) .none kV9 dc9 pm9 an9 cd9 ct9), sl9⟩) (c9 : PySem.W.codeIn K cd9 "lets_hull" = true) (k9 : PySem.W.keepIn K (.ref f9) = true)
    (a10 : PySem.W.nsIn K mainGlobals "_law_feed" = some (some (.ref f10))) (l10 : K.lookup f10 = some ⟨oc10, od10, .func (PySem.W.fnOf "_law_feed" "_law_feed" (defArgs s__law_feed) (defBody s__law_feed) (defScope s__law_feed) .none kV10 dc10 pm10 an10 cd10 ct10), sl10⟩) (c10 : PySem.W.codeIn K cd10 "_law_feed" = true) (k10 : PySem.W.keepIn K (.ref f10) = true)
    (a11 : PySem.W.nsIn K mainGlobals "_law_draw" = some (some (.ref f11))) (l11 : K.lookup f11 = some ⟨oc11, od11, .func (PySem.W.fnOf "_law_draw" "_law_draw" (defArgs s__law_draw) (defBody s__law_draw) (defScope s__law_draw) .none kV11 dc11 pm11 an11 cd11 ct11), sl11⟩) (c11 : PySem.W.codeIn K cd11 "_law_draw" = true) (k11 : PySem.W.keepIn K (.ref f11) = true)
    (a12 : PySem.W.nsIn K mainGlobals "_law_points" = some (some (.ref f12))) (l12 : K.lookup f12 = some ⟨oc12, od12, .func (PySem.W.fnOf "_law_points" "_law_points" (defArgs s__law_points) (defBody s__law_points) (defScope s__law_points) .none kV12 dc12 pm12 an12 cd12 ct12), sl12⟩) (c12 : PySem.W.codeIn K cd12 "_law_points" = true) (k12 : PySem.W.keepIn K (.ref f12) = true)
    (a13 : PySem.W.nsIn K mainGlobals "_law_hand" = some (some (.ref f13))) (l13 : K.lookup f13 = some ⟨oc13, od13, .func (PySem.W.fnOf "_law_hand" "_law_hand" (defArgs s__law_hand) (defBody s__law_hand) (defScope s__law_hand) .none kV13 dc13 pm13 an13 cd13 ct13), sl13⟩) (c13 : PySem.W.codeIn K cd13 "_law_hand" = true) (k13 : PySem.W.keepIn K (.ref f13) = true)
    (a14 : PySem.W.nsIn K mainGlobals "_law_is_edge" = some (some (.ref f14))) (l14 : K.lookup f14 = some ⟨oc14, od14, .func (PySem.W.fnOf "_law_is_edge" "_law_is_edge" (defArgs s__law_is_edge) (defBody s__law_is_edge) (defScope s__law_is_edge) .none kV14 dc14 pm14 an14 cd14 ct14), sl14⟩) (c14 : PySem.W.codeIn K cd14 "_law_is_edge" = true) (k14 : PySem.W.keepIn K (.ref f14) = true)
    (a15 : PySem.W.nsIn K mainGlobals "_law_hull" = some (some (.ref f15))) (l15 : K.lookup f15 = some ⟨oc15, od15, .func (PySem.W.fnOf "_law_hull" "_law_hull" (defArgs s__law_hull) (defBody s__law_hull) (defScope s__law_hull) .none kV15 dc15 pm15 an15 cd15 ct15), sl15⟩) (c15 : PySem.W.codeIn K cd15 "_law_hull" = true) (k15 : PySem.W.keepIn K (.ref f15) = true)
    (a16 : PySem.W.nsIn K mainGlobals "_law_word" = some (some (.ref f16))) (l16 : K.lookup f16 = some ⟨oc16, od16, .func (PySem.W.fnOf "_law_word" "_law_word" (defArgs s__law_word) (defBody s__law_word) (defScope s__law_word) .none kV16 dc16 pm16 an16 cd16 ct16), sl16⟩) (c16 : PySem.W.codeIn K cd16 "_law_word" = true) (k16 : PySem.W.keepIn K (.ref f16) = true)
    (a17 : PySem.W.nsIn K mainGlobals "_law_is_ring" = some (some (.ref f17))) (l17 : K.lookup f17 = some ⟨oc17, od17, .func (PySem.W.fnOf "_law_is_ring" "_law_is_ring" (defArgs s__law_is_ring) (defBody s__law_is_ring) (defScope s__law_is_ring) .none kV17 dc17 pm17 an17 cd17 ct17), sl17⟩) (c17 : PySem.W.codeIn K cd17 "_law_is_ring" = true) (k17 : PySem.W.keepIn K (.ref f17) = true)
    (a18 : PySem.W.nsIn K mainGlobals "_law_is_between" = some (some (.ref f18))) (l18 : K.lookup f18 = some ⟨oc18, od18, .func (PySem.W.fnOf "_law_is_between" "_law_is_between" (defArgs s__law_is_between) (defBody s__law_is_between) (defScope s__law_is_between) .none kV18 dc18 pm18 an18 cd18 ct18), sl18⟩) (c18 : PySem.W.codeIn K cd18 "_law_is_between" = true) (k18 : PySem.W.keepIn K (.ref f18) = true)
    (a19 : PySem.W.nsIn K mainGlobals "_law_ought" = some (some (.ref f19))) (l19 : K.lookup f19 = some ⟨oc19, od19, .func (PySem.W.fnOf "_law_ought" "_law_ought" (defArgs s__law_ought) (defBody s__law_ought) (defScope s__law_ought) .none kV19 dc19 pm19 an19 cd19 ct19), sl19⟩) (c19 : PySem.W.codeIn K cd19 "_law_ought" = true) (k19 : PySem.W.keepIn K (.ref f19) = true)
    (a20 : PySem.W.nsIn K mainGlobals "_law_said" = some (some (.ref f20))) (l20 : K.lookup f20 = some ⟨oc20, od20, .func (PySem.W.fnOf "_law_said" "_law_said" (defArgs s__law_said) (defBody s__law_said) (defScope s__law_said) .none kV20 dc20 pm20 an20 cd20 ct20), sl20⟩) (c20 : PySem.W.codeIn K cd20 "_law_said" = true) (k20 : PySem.W.keepIn K (.ref f20) = true)
    (a21 : PySem.W.nsIn K mainGlobals "_law_spoilt" = some (some (.ref f21))) (l21 : K.lookup f21 = some ⟨oc21, od21, .func (PySem.W.fnOf "_law_spoilt" "_law_spoilt" (defArgs s__law_spoilt) (defBody s__law_spoilt) (defScope s__law_spoilt) .none kV21 dc21 pm21 an21 cd21 ct21), sl21⟩) (c21 : PySem.W.codeIn K cd21 "_law_spoilt" = true) (k21 : PySem.W.keepIn K (.ref f21) = true)
    (a22 : PySem.W.nsIn K mainGlobals "law" = some (some (.ref f22))) (l22 : K.lookup f22 = some ⟨oc22, od22, .func (PySem.W.fnOf "law" "law" (defArgs s_law) (defBody s_law) (defScope s_law) .none kV22 dc22 pm22 an22 cd22 ct22), sl22⟩) (c22 : PySem.W.codeIn K cd22 "law" = true) (k22 : PySem.W.keepIn K (.ref f22) = true)
    (z_all : PySem.W.nsIn K mainGlobals "all" = some none)
    (z_bool : PySem.W.nsIn K mainGlobals "bool" = some none)
    (z_enumerate : PySem.W.nsIn K mainGlobals "enumerate" = some none)
    (z_int : PySem.W.nsIn K mainGlobals "int" = some none)
    (z_isinstance : PySem.W.nsIn K mainGlobals "isinstance" = some none)
    (z_len : PySem.W.nsIn K mainGlobals "len" = some none)
    (z_list : PySem.W.nsIn K mainGlobals "list" = some none)
    (z_max : PySem.W.nsIn K mainGlobals "max" = some none)
    (z_min : PySem.W.nsIn K mainGlobals "min" = some none)
    (z_range : PySem.W.nsIn K mainGlobals "range" = some none)
    (z_repr : PySem.W.nsIn K mainGlobals "repr" = some none)
    (z_set : PySem.W.nsIn K mainGlobals "set" = some none)
    (z_sorted : PySem.W.nsIn K mainGlobals "sorted" = some none)
    (z_tuple : PySem.W.nsIn K mainGlobals "tuple" = some none)
    {A_NoPaper : Addr} (mc_NoPaper : PySem.W.nsIn K mainGlobals "NoPaper" = some (some (.ref A_NoPaper)))
    {A_InkError : Addr} (mc_InkError : PySem.W.nsIn K mainGlobals "InkError" = some (some (.ref A_InkError)))
    (mc_LookupError : PySem.W.nsIn K mainGlobals "LookupError" = some none)
    {A_LostError : Addr} (mc_LostError : PySem.W.nsIn K mainGlobals "LostError" = some (some (.ref A_LostError)))
    {A_NoCell : Addr} (mc_NoCell : PySem.W.nsIn K mainGlobals "NoCell" = some (some (.ref A_NoCell)))
    {A_NoExact : Addr} (mc_NoExact : PySem.W.nsIn K mainGlobals "NoExact" = some (some (.ref A_NoExact)))
    {A_NoLayer : Addr} (mc_NoLayer : PySem.W.nsIn K mainGlobals "NoLayer" = some (some (.ref A_NoLayer)))
    {A_NoName : Addr} (mc_NoName : PySem.W.nsIn K mainGlobals "NoName" = some (some (.ref A_NoName)))
    {A_NoRatio : Addr} (mc_NoRatio : PySem.W.nsIn K mainGlobals "NoRatio" = some (some (.ref A_NoRatio)))
    {A_NoRow : Addr} (mc_NoRow : PySem.W.nsIn K mainGlobals "NoRow" = some (some (.ref A_NoRow)))
    {A_NoSide : Addr} (mc_NoSide : PySem.W.nsIn K mainGlobals "NoSide" = some (some (.ref A_NoSide)))
    {A_NoStep : Addr} (mc_NoStep : PySem.W.nsIn K mainGlobals "NoStep" = some (some (.ref A_NoStep)))
    {A_NoText : Addr} (mc_NoText : PySem.W.nsIn K mainGlobals "NoText" = some (some (.ref A_NoText)))
    (mc_ValueError : PySem.W.nsIn K mainGlobals "ValueError" = some none)
    (mc_ZeroDivisionError : PySem.W.nsIn K mainGlobals "ZeroDivisionError" = some none)
    (g_cn : PySem.W.specialIn K (.builtin "object.__class__") "__get__" = some (some (.builtin "getset_descriptor.__get__"))) (g_ct : PySem.W.takesIn K (.builtin "object.__class__") = some true)
    (ba_InkError : PySem.W.specialIn K (.ref A_InkError) "__getattribute__" = some (some (.builtin "type.__getattribute__"))) (br_InkError : PySem.W.readsIn K A_InkError (.type "type") = true) (bf_InkError : PySem.W.findCls K (.ref A_InkError) (.type "type") "__init__" = some (.val (.builtin "ValueError.__init__")))
    {nm_NoPaper qn_NoPaper : Str} {N_NoPaper fI_NoPaper : Addr} {bs_NoPaper sb_NoPaper : List Value} {sn_NoPaper : List Str} {ab_NoPaper : Bool} {cl_NoPaper : Option Bool} {dd_NoPaper : Option Addr} {k0_NoPaper k1_NoPaper k2_NoPaper k3_NoPaper k5_NoPaper : Option Value} {io_NoPaper ik_NoPaper idc_NoPaper ipm_NoPaper icd_NoPaper ict_NoPaper : Value} {iod_NoPaper ian_NoPaper : Option Addr} {isl_NoPaper : Array (Option Value)}
    (xl_NoPaper : K.lookup A_NoPaper = some (excClassObj nm_NoPaper qn_NoPaper A_NoPaper N_NoPaper bs_NoPaper (.ref A_InkError :: PySem.OXG.tV) true sn_NoPaper sb_NoPaper ab_NoPaper cl_NoPaper dd_NoPaper k0_NoPaper k1_NoPaper k2_NoPaper k3_NoPaper k5_NoPaper "ValueError.__new__"))
    (sa_NoPaper : PySem.W.findIn K (.ref A_NoPaper) "__setattr__" = some (some (.builtin "object.__setattr__")))
    (eb_NoPaper : PySem.W.subIn K (.ref A_NoPaper) (.type "BaseException") = some true)
    (ty_NoPaper : PySem.W.typeIn K (.ref A_NoPaper) = some (.type "type"))
    (kc_NoPaper : PySem.W.keepIn K (.ref A_NoPaper) = true)
    (gg_NoPaper : PySem.W.findIn K (.ref A_NoPaper) "__getattribute__" = some (some (.builtin "BaseException.__getattribute__")))
    (gk_NoPaper : PySem.W.findIn K (.ref A_NoPaper) "__getattr__" = some none)
    (hd_NoPaper : PySem.W.hasDictIn K A_NoPaper = true)
    (ha_NoPaper : PySem.W.findIn K (.ref A_NoPaper) "__class__" = some (some (.builtin "object.__class__")))
    (mo_NoPaper : PySem.W.mroIn K A_NoPaper (.type "object") = some true)
    (ii_NoPaper : PySem.W.findIn K (.ref A_NoPaper) "__init__" = some (some (.ref fI_NoPaper))) (it_NoPaper : PySem.W.typeIn K (.ref fI_NoPaper) = some (.type "function"))
    (il_NoPaper : K.lookup fI_NoPaper = some ⟨io_NoPaper, iod_NoPaper, .func (PySem.W.fnOf "__init__" "NoPaper.__init__" (defArgs s_init_NoPaper) (defBody s_init_NoPaper) (defScope s_init_NoPaper) .none ik_NoPaper idc_NoPaper ipm_NoPaper ian_NoPaper icd_NoPaper ict_NoPaper), isl_NoPaper⟩) (ic_NoPaper : PySem.W.codeIn K icd_NoPaper "NoPaper.__init__" = true) (ikp_NoPaper : PySem.W.keepIn K (.ref fI_NoPaper) = true)
    (no_NoPaper_at : PySem.W.findIn K (.ref A_NoPaper) "at" = some none)
    (no_NoPaper_cell : PySem.W.findIn K (.ref A_NoPaper) "cell" = some none)
    (no_NoPaper_word : PySem.W.findIn K (.ref A_NoPaper) "word" = some none)
    (kt_NoPaper_InkError : PySem.W.kitOne K (.ref A_NoPaper) (.ref A_InkError) = some true)
    (kt_NoPaper_LookupError : PySem.W.kitOne K (.ref A_NoPaper) (.type "LookupError") = some false)
    (kt_NoPaper_LostError : PySem.W.kitOne K (.ref A_NoPaper) (.ref A_LostError) = some false)
    (kt_NoPaper_NoCell : PySem.W.kitOne K (.ref A_NoPaper) (.ref A_NoCell) = some false)
    (kt_NoPaper_NoExact : PySem.W.kitOne K (.ref A_NoPaper) (.ref A_NoExact) = some false)
    (kt_NoPaper_NoLayer : PySem.W.kitOne K (.ref A_NoPaper) (.ref A_NoLayer) = some false)
    (kt_NoPaper_NoName : PySem.W.kitOne K (.ref A_NoPaper) (.ref A_NoName) = some false)
    (kt_NoPaper_NoPaper : PySem.W.kitOne K (.ref A_NoPaper) (.ref A_NoPaper) = some true)
    (kt_NoPaper_NoRatio : PySem.W.kitOne K (.ref A_NoPaper) (.ref A_NoRatio) = some false)
    (kt_NoPaper_NoRow : PySem.W.kitOne K (.ref A_NoPaper) (.ref A_NoRow) = some false)
    (kt_NoPaper_NoSide : PySem.W.kitOne K (.ref A_NoPaper) (.ref A_NoSide) = some false)
    (kt_NoPaper_NoStep : PySem.W.kitOne K (.ref A_NoPaper) (.ref A_NoStep) = some false)
    (kt_NoPaper_NoText : PySem.W.kitOne K (.ref A_NoPaper) (.ref A_NoText) = some false)
    (kt_NoPaper_ValueError : PySem.W.kitOne K (.ref A_NoPaper) (.type "ValueError") = some true)
    (kt_NoPaper_ZeroDivisionError : PySem.W.kitOne K (.ref A_NoPaper) (.type "ZeroDivisionError") = some false)
    (ex_NoPaper_InkError : PySem.W.subIn K (.ref A_NoPaper) (.ref A_InkError) = some true)
    (ex_NoPaper_LostError : PySem.W.subIn K (.ref A_NoPaper) (.ref A_LostError) = some false)
    (xb_InkError : PySem.W.subIn K (.ref A_InkError) (.type "BaseException") = some true) (xh_InkError : PySem.W.hasDictIn K A_InkError = true) (xt_InkError : PySem.W.typeIn K (.ref A_InkError) = some (.type "type"))
    (xb_LostError : PySem.W.subIn K (.ref A_LostError) (.type "BaseException") = some true) (xh_LostError : PySem.W.hasDictIn K A_LostError = true) (xt_LostError : PySem.W.typeIn K (.ref A_LostError) = some (.type "type"))
    : ∃ fd : FuncData, (∀ (s : Shared) (u : Value), BindsTo s fd ⟨[u], []⟩ [("script", u)]) ∧ ∀ base : Heap, K.In base → base.Ns mainGlobals mg → FnD P w K mg base 7 fa fd ["script"] g_law := by
  have hm_NoPaper := PySem.W.mg_of X G mc_NoPaper
  have hv_NoPaper := cvG_own hm_NoPaper
  have hm_InkError := PySem.W.mg_of X G mc_InkError
  have hv_InkError := cvG_own hm_InkError
  have hm_LookupError := PySem.W.mg_none_of X G mc_LookupError
  have hv_LookupError := cvG_blt hm_LookupError (show bootBuiltins "LookupError" = some (.type "LookupError") by decide +kernel)
  have hm_LostError := PySem.W.mg_of X G mc_LostError
  have hv_LostError := cvG_own hm_LostError
  have hm_NoCell := PySem.W.mg_of X G mc_NoCell
  have hv_NoCell := cvG_own hm_NoCell
  have hm_NoExact := PySem.W.mg_of X G mc_NoExact
  have hv_NoExact := cvG_own hm_NoExact
  have hm_NoLayer := PySem.W.mg_of X G mc_NoLayer
  have hv_NoLayer := cvG_own hm_NoLayer
  have hm_NoName := PySem.W.mg_of X G mc_NoName
  have hv_NoName := cvG_own hm_NoName
  have hm_NoRatio := PySem.W.mg_of X G mc_NoRatio
  have hv_NoRatio := cvG_own hm_NoRatio
  have hm_NoRow := PySem.W.mg_of X G mc_NoRow
  have hv_NoRow := cvG_own hm_NoRow
  have hm_NoSide := PySem.W.mg_of X G mc_NoSide
  have hv_NoSide := cvG_own hm_NoSide
  have hm_NoStep := PySem.W.mg_of X G mc_NoStep
  have hv_NoStep := cvG_own hm_NoStep
  have hm_NoText := PySem.W.mg_of X G mc_NoText
  have hv_NoText := cvG_own hm_NoText
  have hm_ValueError := PySem.W.mg_none_of X G mc_ValueError
  have hv_ValueError := cvG_blt hm_ValueError (show bootBuiltins "ValueError" = some (.type "ValueError") by decide +kernel)
  have hm_ZeroDivisionError := PySem.W.mg_none_of X G mc_ZeroDivisionError
  have hv_ZeroDivisionError := cvG_blt hm_ZeroDivisionError (show bootBuiltins "ZeroDivisionError" = some (.type "ZeroDivisionError") by decide +kernel)
  have xx_NoPaper := xi_NoPaper (fun_mk (st := s_init_NoPaper) il_NoPaper ic_NoPaper ikp_NoPaper) ⟨⟨nm_NoPaper, qn_NoPaper, N_NoPaper, bs_NoPaper, _, sn_NoPaper, sb_NoPaper, ab_NoPaper, cl_NoPaper, dd_NoPaper, k0_NoPaper, k1_NoPaper, k2_NoPaper, k3_NoPaper, k5_NoPaper, xl_NoPaper, .own .base⟩, sa_NoPaper, eb_NoPaper, ty_NoPaper, kc_NoPaper⟩ hm_InkError ⟨ba_InkError, br_InkError, bf_InkError, rfl⟩ hm_NoPaper mc_NoPaper ii_NoPaper it_NoPaper no_NoPaper_word no_NoPaper_at
  have bx : ∀ C ∈ excD, ∀ aC, PySem.W.nsIn K mainGlobals C = some (some (.ref aC)) → ExcC K aC ∧ XfC K aC := by
    intro C hC aC h
    simp only [excD, List.mem_cons, List.not_mem_nil, or_false] at hC
    rcases hC with rfl
    · cases mc_NoPaper.symm.trans h
      exact ⟨⟨gg_NoPaper, gk_NoPaper, eb_NoPaper, hd_NoPaper, ha_NoPaper, g_cn, g_ct, mo_NoPaper⟩, ⟨gg_NoPaper, gk_NoPaper, eb_NoPaper, hd_NoPaper⟩⟩
  have bk_InkError : ∀ C ∈ excD, ∀ aC, PySem.W.nsIn K mainGlobals C = some (some (.ref aC)) → PySem.W.kitOne K (.ref aC) (cvG mg "InkError") = some (subX C "InkError") := by
    intro C hC aC h
    simp only [excD, List.mem_cons, List.not_mem_nil, or_false] at hC
    rcases hC with rfl
    · cases mc_NoPaper.symm.trans h
      rw [hv_InkError, kt_NoPaper_InkError]; exact congrArg some (by decide +kernel)
  have bk_LookupError : ∀ C ∈ excD, ∀ aC, PySem.W.nsIn K mainGlobals C = some (some (.ref aC)) → PySem.W.kitOne K (.ref aC) (cvG mg "LookupError") = some (subX C "LookupError") := by
    intro C hC aC h
    simp only [excD, List.mem_cons, List.not_mem_nil, or_false] at hC
    rcases hC with rfl
    · cases mc_NoPaper.symm.trans h
      rw [hv_LookupError, kt_NoPaper_LookupError]; exact congrArg some (by decide +kernel)
  have bk_LostError : ∀ C ∈ excD, ∀ aC, PySem.W.nsIn K mainGlobals C = some (some (.ref aC)) → PySem.W.kitOne K (.ref aC) (cvG mg "LostError") = some (subX C "LostError") := by
    intro C hC aC h
    simp only [excD, List.mem_cons, List.not_mem_nil, or_false] at hC
    rcases hC with rfl
    · cases mc_NoPaper.symm.trans h
      rw [hv_LostError, kt_NoPaper_LostError]; exact congrArg some (by decide +kernel)
  have bk_NoCell : ∀ C ∈ excD, ∀ aC, PySem.W.nsIn K mainGlobals C = some (some (.ref aC)) → PySem.W.kitOne K (.ref aC) (cvG mg "NoCell") = some (subX C "NoCell") := by
    intro C hC aC h
    simp only [excD, List.mem_cons, List.not_mem_nil, or_false] at hC
    rcases hC with rfl
    · cases mc_NoPaper.symm.trans h
      rw [hv_NoCell, kt_NoPaper_NoCell]; exact congrArg some (by decide +kernel)
  have bk_NoExact : ∀ C ∈ excD, ∀ aC, PySem.W.nsIn K mainGlobals C = some (some (.ref aC)) → PySem.W.kitOne K (.ref aC) (cvG mg "NoExact") = some (subX C "NoExact") := by
    intro C hC aC h
    simp only [excD, List.mem_cons, List.not_mem_nil, or_false] at hC
    rcases hC with rfl
    · cases mc_NoPaper.symm.trans h
      rw [hv_NoExact, kt_NoPaper_NoExact]; exact congrArg some (by decide +kernel)
  have bk_NoLayer : ∀ C ∈ excD, ∀ aC, PySem.W.nsIn K mainGlobals C = some (some (.ref aC)) → PySem.W.kitOne K (.ref aC) (cvG mg "NoLayer") = some (subX C "NoLayer") := by
    intro C hC aC h
    simp only [excD, List.mem_cons, List.not_mem_nil, or_false] at hC
    rcases hC with rfl
    · cases mc_NoPaper.symm.trans h
      rw [hv_NoLayer, kt_NoPaper_NoLayer]; exact congrArg some (by decide +kernel)
  have bk_NoName : ∀ C ∈ excD, ∀ aC, PySem.W.nsIn K mainGlobals C = some (some (.ref aC)) → PySem.W.kitOne K (.ref aC) (cvG mg "NoName") = some (subX C "NoName") := by
    intro C hC aC h
    simp only [excD, List.mem_cons, List.not_mem_nil, or_false] at hC
    rcases hC with rfl
    · cases mc_NoPaper.symm.trans h
      rw [hv_NoName, kt_NoPaper_NoName]; exact congrArg some (by decide +kernel)
  have bk_NoPaper : ∀ C ∈ excD, ∀ aC, PySem.W.nsIn K mainGlobals C = some (some (.ref aC)) → PySem.W.kitOne K (.ref aC) (cvG mg "NoPaper") = some (subX C "NoPaper") := by
    intro C hC aC h
    simp only [excD, List.mem_cons, List.not_mem_nil, or_false] at hC
    rcases hC with rfl
    · cases mc_NoPaper.symm.trans h
      rw [hv_NoPaper, kt_NoPaper_NoPaper]; exact congrArg some (by decide +kernel)
  have bk_NoRatio : ∀ C ∈ excD, ∀ aC, PySem.W.nsIn K mainGlobals C = some (some (.ref aC)) → PySem.W.kitOne K (.ref aC) (cvG mg "NoRatio") = some (subX C "NoRatio") := by
    intro C hC aC h
    simp only [excD, List.mem_cons, List.not_mem_nil, or_false] at hC
    rcases hC with rfl
    · cases mc_NoPaper.symm.trans h
      rw [hv_NoRatio, kt_NoPaper_NoRatio]; exact congrArg some (by decide +kernel)
  have bk_NoRow : ∀ C ∈ excD, ∀ aC, PySem.W.nsIn K mainGlobals C = some (some (.ref aC)) → PySem.W.kitOne K (.ref aC) (cvG mg "NoRow") = some (subX C "NoRow") := by
    intro C hC aC h
    simp only [excD, List.mem_cons, List.not_mem_nil, or_false] at hC
    rcases hC with rfl
    · cases mc_NoPaper.symm.trans h
      rw [hv_NoRow, kt_NoPaper_NoRow]; exact congrArg some (by decide +kernel)
  have bk_NoSide : ∀ C ∈ excD, ∀ aC, PySem.W.nsIn K mainGlobals C = some (some (.ref aC)) → PySem.W.kitOne K (.ref aC) (cvG mg "NoSide") = some (subX C "NoSide") := by
    intro C hC aC h
    simp only [excD, List.mem_cons, List.not_mem_nil, or_false] at hC
    rcases hC with rfl
    · cases mc_NoPaper.symm.trans h
      rw [hv_NoSide, kt_NoPaper_NoSide]; exact congrArg some (by decide +kernel)
  have bk_NoStep : ∀ C ∈ excD, ∀ aC, PySem.W.nsIn K mainGlobals C = some (some (.ref aC)) → PySem.W.kitOne K (.ref aC) (cvG mg "NoStep") = some (subX C "NoStep") := by
    intro C hC aC h
    simp only [excD, List.mem_cons, List.not_mem_nil, or_false] at hC
    rcases hC with rfl
    · cases mc_NoPaper.symm.trans h
      rw [hv_NoStep, kt_NoPaper_NoStep]; exact congrArg some (by decide +kernel)
  have bk_NoText : ∀ C ∈ excD, ∀ aC, PySem.W.nsIn K mainGlobals C = some (some (.ref aC)) → PySem.W.kitOne K (.ref aC) (cvG mg "NoText") = some (subX C "NoText") := by
    intro C hC aC h
    simp only [excD, List.mem_cons, List.not_mem_nil, or_false] at hC
    rcases hC with rfl
    · cases mc_NoPaper.symm.trans h
      rw [hv_NoText, kt_NoPaper_NoText]; exact congrArg some (by decide +kernel)
  have bk_ValueError : ∀ C ∈ excD, ∀ aC, PySem.W.nsIn K mainGlobals C = some (some (.ref aC)) → PySem.W.kitOne K (.ref aC) (cvG mg "ValueError") = some (subX C "ValueError") := by
    intro C hC aC h
    simp only [excD, List.mem_cons, List.not_mem_nil, or_false] at hC
    rcases hC with rfl
    · cases mc_NoPaper.symm.trans h
      rw [hv_ValueError, kt_NoPaper_ValueError]; exact congrArg some (by decide +kernel)
  have bk_ZeroDivisionError : ∀ C ∈ excD, ∀ aC, PySem.W.nsIn K mainGlobals C = some (some (.ref aC)) → PySem.W.kitOne K (.ref aC) (cvG mg "ZeroDivisionError") = some (subX C "ZeroDivisionError") := by
    intro C hC aC h
    simp only [excD, List.mem_cons, List.not_mem_nil, or_false] at hC
    rcases hC with rfl
    · cases mc_NoPaper.symm.trans h
      rw [hv_ZeroDivisionError, kt_NoPaper_ZeroDivisionError]; exact congrArg some (by decide +kernel)
  have be_InkError : ∀ C ∈ excD, ∀ aC, PySem.W.nsIn K mainGlobals C = some (some (.ref aC)) → PySem.W.exmOne K (.ref aC) (cvG mg "InkError") = some (subX C "InkError") := by
    intro C hC aC h
    simp only [excD, List.mem_cons, List.not_mem_nil, or_false] at hC
    rcases hC with rfl
    · cases mc_NoPaper.symm.trans h
      rw [hv_InkError, PySem.W.exm_ref xb_InkError xh_InkError xt_InkError ex_NoPaper_InkError]; exact congrArg some (by decide +kernel)
  have be_LostError : ∀ C ∈ excD, ∀ aC, PySem.W.nsIn K mainGlobals C = some (some (.ref aC)) → PySem.W.exmOne K (.ref aC) (cvG mg "LostError") = some (subX C "LostError") := by
    intro C hC aC h
    simp only [excD, List.mem_cons, List.not_mem_nil, or_false] at hC
    rcases hC with rfl
    · cases mc_NoPaper.symm.trans h
      rw [hv_LostError, PySem.W.exm_ref xb_LostError xh_LostError xt_LostError ex_NoPaper_LostError]; exact congrArg some (by decide +kernel)
  have tn_InkError : TnF mg "InkError" := tnF_own hm_InkError
  have tn_LookupError : TnF mg "LookupError" := tnF_blt hm_LookupError (show bootBuiltins "LookupError" = some (.type "LookupError") by decide +kernel) (by decide)
  have tn_LostError : TnF mg "LostError" := tnF_own hm_LostError
  have tn_NoCell : TnF mg "NoCell" := tnF_own hm_NoCell
  have tn_NoExact : TnF mg "NoExact" := tnF_own hm_NoExact
  have tn_NoLayer : TnF mg "NoLayer" := tnF_own hm_NoLayer
  have tn_NoName : TnF mg "NoName" := tnF_own hm_NoName
  have tn_NoPaper : TnF mg "NoPaper" := tnF_own hm_NoPaper
  have tn_NoRatio : TnF mg "NoRatio" := tnF_own hm_NoRatio
  have tn_NoRow : TnF mg "NoRow" := tnF_own hm_NoRow
  have tn_NoSide : TnF mg "NoSide" := tnF_own hm_NoSide
  have tn_NoStep : TnF mg "NoStep" := tnF_own hm_NoStep
  have tn_NoText : TnF mg "NoText" := tnF_own hm_NoText
  have tn_ValueError : TnF mg "ValueError" := tnF_blt hm_ValueError (show bootBuiltins "ValueError" = some (.type "ValueError") by decide +kernel) (by decide)
  have tn_ZeroDivisionError : TnF mg "ZeroDivisionError" := tnF_blt hm_ZeroDivisionError (show bootBuiltins "ZeroDivisionError" = some (.type "ZeroDivisionError") by decide +kernel) (by decide)
  have bh_at : ∀ C ∈ excD, ∀ aC, PySem.W.nsIn K mainGlobals C = some (some (.ref aC)) → PySem.W.findIn K (.ref aC) "at" = some none := by
    intro C hC aC h
    simp only [excD, List.mem_cons, List.not_mem_nil, or_false] at hC
    rcases hC with rfl
    · cases mc_NoPaper.symm.trans h
      exact no_NoPaper_at
  have bh_cell : ∀ C ∈ excD, ∀ aC, PySem.W.nsIn K mainGlobals C = some (some (.ref aC)) → PySem.W.findIn K (.ref aC) "cell" = some none := by
    intro C hC aC h
    simp only [excD, List.mem_cons, List.not_mem_nil, or_false] at hC
    rcases hC with rfl
    · cases mc_NoPaper.symm.trans h
      exact no_NoPaper_cell
  have bh_word : ∀ C ∈ excD, ∀ aC, PySem.W.nsIn K mainGlobals C = some (some (.ref aC)) → PySem.W.findIn K (.ref aC) "word" = some none := by
    intro C hC aC h
    simp only [excD, List.mem_cons, List.not_mem_nil, or_false] at hC
    rcases hC with rfl
    · cases mc_NoPaper.symm.trans h
      exact no_NoPaper_word
  have B : Bi K mg := ⟨PySem.W.mg_none_of X G z_all, PySem.W.mg_none_of X G z_bool, PySem.W.mg_none_of X G z_enumerate, PySem.W.mg_none_of X G z_int, PySem.W.mg_none_of X G z_isinstance, PySem.W.mg_none_of X G z_len, PySem.W.mg_none_of X G z_list, PySem.W.mg_none_of X G z_max, PySem.W.mg_none_of X G z_min, PySem.W.mg_none_of X G z_range, PySem.W.mg_none_of X G z_repr, PySem.W.mg_none_of X G z_set, PySem.W.mg_none_of X G z_sorted, PySem.W.mg_none_of X G z_tuple, xx_NoPaper, bx, bk_InkError, bk_LookupError, bk_LostError, bk_NoCell, bk_NoExact, bk_NoLayer, bk_NoName, bk_NoPaper, bk_NoRatio, bk_NoRow, bk_NoSide, bk_NoStep, bk_NoText, bk_ValueError, bk_ZeroDivisionError, be_InkError, be_LostError, tn_InkError, tn_LookupError, tn_LostError, tn_NoCell, tn_NoExact, tn_NoLayer, tn_NoName, tn_NoPaper, tn_NoRatio, tn_NoRow, tn_NoSide, tn_NoStep, tn_NoText, tn_ValueError, tn_ZeroDivisionError, bh_at, bh_cell, bh_word⟩
  have T0 : Tx K mg "bend" s_bend := ⟨⟨f0, _, PySem.W.mg_of X G a0, fun_mk (st := s_bend) l0 c0 k0⟩⟩
  have T1 : Tx K mg "is_number" s_is_number := ⟨⟨f1, _, PySem.W.mg_of X G a1, fun_mk (st := s_is_number) l1 c1 k1⟩⟩
  have T2 : Tx K mg "are_numbers" s_are_numbers := ⟨⟨f2, _, PySem.W.mg_of X G a2, fun_mk (st := s_are_numbers) l2 c2 k2⟩⟩
  have T3 : Tx K mg "is_point" s_is_point := ⟨⟨f3, _, PySem.W.mg_of X G a3, fun_mk (st := s_is_point) l3 c3 k3⟩⟩
  have T4 : Tx K mg "is_ring" s_is_ring := ⟨⟨f4, _, PySem.W.mg_of X G a4, fun_mk (st := s_is_ring) l4 c4 k4⟩⟩
  have T5 : Tx K mg "ask_corners" s_ask_corners := ⟨⟨f5, _, PySem.W.mg_of X G a5, fun_mk (st := s_ask_corners) l5 c5 k5⟩⟩
  have T6 : Tx K mg "is_between" s_is_between := ⟨⟨f6, _, PySem.W.mg_of X G a6, fun_mk (st := s_is_between) l6 c6 k6⟩⟩
  have T7 : Tx K mg "ask_few" s_ask_few := ⟨⟨f7, _, PySem.W.mg_of X G a7, fun_mk (st := s_ask_few) l7 c7 k7⟩⟩
  have T8 : Tx K mg "ask_many" s_ask_many := ⟨⟨f8, _, PySem.W.mg_of X G a8, fun_mk (st := s_ask_many) l8 c8 k8⟩⟩
  have T9 : Tx K mg "lets_hull" s_lets_hull := ⟨⟨f9, _, PySem.W.mg_of X G a9, fun_mk (st := s_lets_hull) l9 c9 k9⟩⟩
  have T10 : Tx K mg "_law_feed" s__law_feed := ⟨⟨f10, _, PySem.W.mg_of X G a10, fun_mk (st := s__law_feed) l10 c10 k10⟩⟩
  have T11 : Tx K mg "_law_draw" s__law_draw := ⟨⟨f11, _, PySem.W.mg_of X G a11, fun_mk (st := s__law_draw) l11 c11 k11⟩⟩
  have T12 : Tx K mg "_law_points" s__law_points := ⟨⟨f12, _, PySem.W.mg_of X G a12, fun_mk (st := s__law_points) l12 c12 k12⟩⟩
  have T13 : Tx K mg "_law_hand" s__law_hand := ⟨⟨f13, _, PySem.W.mg_of X G a13, fun_mk (st := s__law_hand) l13 c13 k13⟩⟩
  have T14 : Tx K mg "_law_is_edge" s__law_is_edge := ⟨⟨f14, _, PySem.W.mg_of X G a14, fun_mk (st := s__law_is_edge) l14 c14 k14⟩⟩
  have T15 : Tx K mg "_law_hull" s__law_hull := ⟨⟨f15, _, PySem.W.mg_of X G a15, fun_mk (st := s__law_hull) l15 c15 k15⟩⟩
  have T16 : Tx K mg "_law_word" s__law_word := ⟨⟨f16, _, PySem.W.mg_of X G a16, fun_mk (st := s__law_word) l16 c16 k16⟩⟩
  have T17 : Tx K mg "_law_is_ring" s__law_is_ring := ⟨⟨f17, _, PySem.W.mg_of X G a17, fun_mk (st := s__law_is_ring) l17 c17 k17⟩⟩
  have T18 : Tx K mg "_law_is_between" s__law_is_between := ⟨⟨f18, _, PySem.W.mg_of X G a18, fun_mk (st := s__law_is_between) l18 c18 k18⟩⟩
  have T19 : Tx K mg "_law_ought" s__law_ought := ⟨⟨f19, _, PySem.W.mg_of X G a19, fun_mk (st := s__law_ought) l19 c19 k19⟩⟩
  have T20 : Tx K mg "_law_said" s__law_said := ⟨⟨f20, _, PySem.W.mg_of X G a20, fun_mk (st := s__law_said) l20 c20 k20⟩⟩
  have T21 : Tx K mg "_law_spoilt" s__law_spoilt := ⟨⟨f21, _, PySem.W.mg_of X G a21, fun_mk (st := s__law_spoilt) l21 c21 k21⟩⟩
  have T22 : Tx K mg "law" s_law := ⟨⟨f22, _, PySem.W.mg_of X G a22, fun_mk (st := s_law) l22 c22 k22⟩⟩
  have e := hfa.symm.trans (PySem.W.mg_of X G a22)
  cases e
  have F := fun_mk (st := s_law) l22 c22 k22
  refine ⟨PySem.W.fnOf "law" "law" (defArgs s_law) (defBody s_law) (defScope s_law) .none kV22 dc22 pm22 an22 cd22 ct22, fun s v => .of_eq rfl, fun base _ _ => ?_⟩
  have d_bend : Df P w K mg base "bend" ["one", "other", "third"] 1 g_bend := ok_bend B T0 
  have d_is_number : Df P w K mg base "is_number" ["thing"] 1 g_is_number := ok_is_number B T1 
  have d_are_numbers : Df P w K mg base "are_numbers" ["thing", "many"] 2 g_are_numbers := ok_are_numbers B T2 d_is_number
  have d_is_point : Df P w K mg base "is_point" ["thing"] 3 g_is_point := ok_is_point B T3 d_are_numbers
  have d_is_ring : Df P w K mg base "is_ring" ["thing"] 4 g_is_ring := ok_is_ring B T4 d_is_point
  have d_ask_corners : Df P w K mg base "ask_corners" ["points", "thing"] 3 g_ask_corners := ok_ask_corners B T5 
  have d_is_between : Df P w K mg base "is_between" ["point", "thing"] 2 g_is_between := ok_is_between B T6 d_bend
  have d_ask_few : Df P w K mg base "ask_few" ["points", "thing"] 3 g_ask_few := ok_ask_few B T7 d_is_between
  have d_ask_many : Df P w K mg base "ask_many" ["points", "thing"] 3 g_ask_many := ok_ask_many B T8 d_bend
  have d_lets_hull : Df P w K mg base "lets_hull" ["points", "thing"] 5 g_lets_hull := ok_lets_hull B T9 d_ask_corners d_is_ring d_ask_few d_ask_many
  have d__law_feed : Df P w K mg base "_law_feed" ["script"] 1 g__law_feed := ok__law_feed B T10 
  have d__law_draw : Df P w K mg base "_law_draw" ["feed", "many"] 1 g__law_draw := ok__law_draw B T11 
  have d__law_points : Df P w K mg base "_law_points" ["feed", "many"] 2 g__law_points := ok__law_points B T12 d__law_draw
  have d__law_hand : Df P w K mg base "_law_hand" ["one", "other", "third"] 1 g__law_hand := ok__law_hand B T13 
  have d__law_is_edge : Df P w K mg base "_law_is_edge" ["points", "one", "other"] 2 g__law_is_edge := ok__law_is_edge B T14 d__law_hand
  have d__law_hull : Df P w K mg base "_law_hull" ["points"] 3 g__law_hull := ok__law_hull B T15 d__law_is_edge
  have d__law_word : ∀ (C : Str), C ∈ excD → ∀ (aC xa xd : Addr) (oe : Obj), PySem.W.nsIn K mainGlobals C = some (some (.ref aC)) → Zc (.ref aC) (some xd) oe → (∃ vs, oe.data = .fields vs) → DfX P w K mg base "_law_word" ["e"] 1 (gX (tb__law_word C xa xd) n__law_word xa) xa oe := ok__law_word B T16 
  have d__law_is_ring : Df P w K mg base "_law_is_ring" ["thing"] 1 g__law_is_ring := ok__law_is_ring B T17 
  have d__law_is_between : Df P w K mg base "_law_is_between" ["point", "thing"] 2 g__law_is_between := ok__law_is_between B T18 d__law_hand
  have d__law_ought : Df P w K mg base "_law_ought" ["points", "thing"] 3 g__law_ought := ok__law_ought B T19 d__law_is_ring d__law_hand d__law_is_between
  have d__law_said : Df P w K mg base "_law_said" ["points", "thing"] 6 g__law_said := ok__law_said B T20 d_lets_hull d__law_word
  have d__law_spoilt : Df P w K mg base "_law_spoilt" ["feed", "points", "ring", "way"] 2 g__law_spoilt := ok__law_spoilt B T21 d__law_draw
  exact ok_law B F d__law_feed d__law_draw d__law_hull d__law_points d__law_spoilt d__law_is_ring d__law_said d__law_ought
end L2.DL
instance L2.DL.tt0 : L2.DL.Tbs := ⟨[]⟩
open PySem PySem.W PyProof.Rows
set_option maxRecDepth 100000 in
set_option maxHeartbeats 0 in
theorem PySem.Challenge.cw_inkcover_k56_hulls_judged_holds : PySem.Challenge.rw_inkcover_k56_hulls_judged.Holds := by
  w_on; o_law; k_head; (case hw => w_witness2)
  k_fill
  refine L2.DL.walkD (l := PySem.Challenge.rw_inkcover_k56_hulls_judged) (k := 7) (x := "script") (g := L2.DL.g_law) rfl rfl ⟨rfl, by decide, by decide⟩ (fun w h Y => PySem.W.kIn_of Y) ?F L2.DL.law_holds
  case F =>
    intro w mg fa h KX G hmg
    refine' L2.DL.all_mk KX G hmg ?a0 ?l0 ?c0 ?k0 ?a1 ?l1 ?c1 ?k1 ?a2 ?l2 ?c2 ?k2 ?a3 ?l3 ?c3 ?k3 ?a4 ?l4 ?c4 ?k4 ?a5 ?l5 ?c5 ?k5 ?a6 ?l6 ?c6 ?k6 ?a7 ?l7 ?c7 ?k7 ?a8 ?l8 ?c8 ?k8 ?a9 ?l9 ?c9 ?k9 ?a10 ?l10 ?c10 ?k10 ?a11 ?l11 ?c11 ?k11 ?a12 ?l12 ?c12 ?k12 ?a13 ?l13 ?c13 ?k13 ?a14 ?l14 ?c14 ?k14 ?a15 ?l15 ?c15 ?k15 ?a16 ?l16 ?c16 ?k16 ?a17 ?l17 ?c17 ?k17 ?a18 ?l18 ?c18 ?k18 ?a19 ?l19 ?c19 ?k19 ?a20 ?l20 ?c20 ?k20 ?a21 ?l21 ?c21 ?k21 ?a22 ?l22 ?c22 ?k22 ?z_all ?z_bool ?z_enumerate ?z_int ?z_isinstance ?z_len ?z_list ?z_max ?z_min ?z_range ?z_repr ?z_set ?z_sorted ?z_tuple ?mc_NoPaper ?mc_InkError ?mc_LookupError ?mc_LostError ?mc_NoCell ?mc_NoExact ?mc_NoLayer ?mc_NoName ?mc_NoRatio ?mc_NoRow ?mc_NoSide ?mc_NoStep ?mc_NoText ?mc_ValueError ?mc_ZeroDivisionError ?g_cn ?g_ct ?ba_InkError ?br_InkError ?bf_InkError ?xl_NoPaper ?sa_NoPaper ?eb_NoPaper ?ty_NoPaper ?kc_NoPaper ?gg_NoPaper ?gk_NoPaper ?hd_NoPaper ?ha_NoPaper ?mo_NoPaper ?ii_NoPaper ?it_NoPaper ?il_NoPaper ?ic_NoPaper ?ikp_NoPaper ?no_NoPaper_at ?no_NoPaper_cell ?no_NoPaper_word ?kt_NoPaper_InkError ?kt_NoPaper_LookupError ?kt_NoPaper_LostError ?kt_NoPaper_NoCell ?kt_NoPaper_NoExact ?kt_NoPaper_NoLayer ?kt_NoPaper_NoName ?kt_NoPaper_NoPaper ?kt_NoPaper_NoRatio ?kt_NoPaper_NoRow ?kt_NoPaper_NoSide ?kt_NoPaper_NoStep ?kt_NoPaper_NoText ?kt_NoPaper_ValueError ?kt_NoPaper_ZeroDivisionError ?ex_NoPaper_InkError ?ex_NoPaper_LostError ?xb_InkError ?xh_InkError ?xt_InkError ?xb_LostError ?xh_LostError ?xt_LostError
    (case a0 => k_is)
    (case l0 => k_is)
    (case c0 => k_is)
    (case k0 => k_is)
    (case a1 => k_is)
    (case l1 => k_is)
    (case c1 => k_is)
    (case k1 => k_is)
    (case a2 => k_is)
    (case l2 => k_is)
    (case c2 => k_is)
    (case k2 => k_is)
    (case a3 => k_is)
    (case l3 => k_is)
    (case c3 => k_is)
    (case k3 => k_is)
    (case a4 => k_is)
    (case l4 => k_is)
    (case c4 => k_is)
    (case k4 => k_is)
    (case a5 => k_is)
    (case l5 => k_is)
    (case c5 => k_is)
    (case k5 => k_is)
    (case a6 => k_is)
    (case l6 => k_is)
    (case c6 => k_is)
    (case k6 => k_is)
    (case a7 => k_is)
    (case l7 => k_is)
    (case c7 => k_is)
    (case k7 => k_is)
    (case a8 => k_is)
    (case l8 => k_is)
    (case c8 => k_is)
    (case k8 => k_is)
    (case a9 => k_is)
    (case l9 => k_is)
    (case c9 => k_is)
    (case k9 => k_is)
    (case a10 => k_is)
    (case l10 => k_is)
    (case c10 => k_is)
    (case k10 => k_is)
    (case a11 => k_is)
    (case l11 => k_is)
    (case c11 => k_is)
    (case k11 => k_is)
    (case a12 => k_is)
    (case l12 => k_is)
    (case c12 => k_is)
    (case k12 => k_is)
    (case a13 => k_is)
    (case l13 => k_is)
    (case c13 => k_is)
    (case k13 => k_is)
    (case a14 => k_is)
    (case l14 => k_is)
    (case c14 => k_is)
    (case k14 => k_is)
    (case a15 => k_is)
    (case l15 => k_is)
    (case c15 => k_is)
    (case k15 => k_is)
    (case a16 => k_is)
    (case l16 => k_is)
    (case c16 => k_is)
    (case k16 => k_is)
    (case a17 => k_is)
    (case l17 => k_is)
    (case c17 => k_is)
    (case k17 => k_is)
    (case a18 => k_is)
    (case l18 => k_is)
    (case c18 => k_is)
    (case k18 => k_is)
    (case a19 => k_is)
    (case l19 => k_is)
    (case c19 => k_is)
    (case k19 => k_is)
    (case a20 => k_is)
    (case l20 => k_is)
    (case c20 => k_is)
    (case k20 => k_is)
    (case a21 => k_is)
    (case l21 => k_is)
    (case c21 => k_is)
    (case k21 => k_is)
    (case a22 => k_is)
    (case l22 => k_is)
    (case c22 => k_is)
    (case k22 => k_is)
    (case z_all => k_is)
    (case z_bool => k_is)
    (case z_enumerate => k_is)
    (case z_int => k_is)
    (case z_isinstance => k_is)
    (case z_len => k_is)
    (case z_list => k_is)
    (case z_max => k_is)
    (case z_min => k_is)
    (case z_range => k_is)
    (case z_repr => k_is)
    (case z_set => k_is)
    (case z_sorted => k_is)
    (case z_tuple => k_is)
    (case mc_NoPaper => k_is)
    (case mc_InkError => k_is)
    (case mc_LookupError => k_is)
    (case mc_LostError => k_is)
    (case mc_NoCell => k_is)
    (case mc_NoExact => k_is)
    (case mc_NoLayer => k_is)
    (case mc_NoName => k_is)
    (case mc_NoRatio => k_is)
    (case mc_NoRow => k_is)
    (case mc_NoSide => k_is)
    (case mc_NoStep => k_is)
    (case mc_NoText => k_is)
    (case mc_ValueError => k_is)
    (case mc_ZeroDivisionError => k_is)
    (case g_cn => k_is)
    (case g_ct => k_is)
    (case ba_InkError => k_is)
    (case br_InkError => k_is)
    (case bf_InkError => k_is)
    (case xl_NoPaper => k_is)
    (case sa_NoPaper => k_is)
    (case eb_NoPaper => k_is)
    (case ty_NoPaper => k_is)
    (case kc_NoPaper => k_is)
    (case gg_NoPaper => k_is)
    (case gk_NoPaper => k_is)
    (case hd_NoPaper => k_is)
    (case ha_NoPaper => k_is)
    (case mo_NoPaper => k_is)
    (case ii_NoPaper => k_is)
    (case it_NoPaper => k_is)
    (case il_NoPaper => k_is)
    (case ic_NoPaper => k_is)
    (case ikp_NoPaper => k_is)
    (case no_NoPaper_at => k_is)
    (case no_NoPaper_cell => k_is)
    (case no_NoPaper_word => k_is)
    (case kt_NoPaper_InkError => kit_is)
    (case kt_NoPaper_LookupError => kit_is)
    (case kt_NoPaper_LostError => kit_is)
    (case kt_NoPaper_NoCell => kit_is)
    (case kt_NoPaper_NoExact => kit_is)
    (case kt_NoPaper_NoLayer => kit_is)
    (case kt_NoPaper_NoName => kit_is)
    (case kt_NoPaper_NoPaper => kit_is)
    (case kt_NoPaper_NoRatio => kit_is)
    (case kt_NoPaper_NoRow => kit_is)
    (case kt_NoPaper_NoSide => kit_is)
    (case kt_NoPaper_NoStep => kit_is)
    (case kt_NoPaper_NoText => kit_is)
    (case kt_NoPaper_ValueError => kit_is)
    (case kt_NoPaper_ZeroDivisionError => kit_is)
    (case ex_NoPaper_InkError => k_is)
    (case ex_NoPaper_LostError => k_is)
    (case xb_InkError => k_is)
    (case xh_InkError => k_is)
    (case xt_InkError => k_is)
    (case xb_LostError => k_is)
    (case xh_LostError => k_is)
    (case xt_LostError => k_is)
