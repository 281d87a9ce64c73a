import PyProof.Rows.All
import Wide.All
import OpenK.AllK
import Wide.FinOn
import HandS.ForMost
import HandS.ForExc
import HandS.Wide
import HandS.TupAny
import HandS.TupLe
import HandS.CallSlots
import HandS.Flow
import HandS.NoneIn
import HandS.RaiseMore
import HandS.Zip
import HandS.IsInst
import HandS.Style
import HandS.FStr
import HandS.SetFor
import HandS.SortInts
import HandS.Deep
import HandS.TupMul
import HandS.Exc
import HandS.ExcInit
import HandS.ExcIs
import KE.KExcInit
import PyProof.ExcBaseAll.LookupError
import PyProof.ExcBaseAll.ZeroDivisionError
import PyProof.ExcBaseAll.ValueError
import KE.GoesMore
import HandS.EndBits
import HandS.ExcField
import KE.KExcIs
import HandS.Conv
import KE.DataMinMax
import PyProof.Claim2Refuses
import KE.KDictKeyed
import HandS.Dict
import HandS.Defaults
import KE.BitLaws
import HandS.Nested
import HandS.NestedK
import HandS.EndTab
import KE.KTryMore
import HandS.HotCalls
import PySem.Challenge.RW_inkcover_k09_turned_and_shifted
set_option Elab.async false
set_option linter.all false
set_option maxRecDepth 100000
set_option maxHeartbeats 4000000
/-! DLa: data-level values, stores, how they are borne by the abstract heap -/
namespace L2.DL
open PySem PySem.Spec PyProof.Rows

/-- the tables of code objects that the defs have in which functions are made -/
class Tbs where
  T : List NdefX.NTab
/-- a function that an expression made: its words, the cells that it captured, its code object -/
structure LFn where
  qual : Str
  params : Arguments
  body : Expr
  scope : Scope
  cl : List (Str × Addr)
  c : Addr
/-- the object at f is this function -/
def FnL (f : Addr) (F : LFn) : HO := .ext fun h => ∃ (pm ctv : Value), h.get? f = some (PySem.W.kla_obj "<lambda>" F.qual F.params F.body F.scope F.cl pm F.c ctv)
/-- a value: tuples and lists that nobody changes by their items; what may change by its address -/
inductive D where
  | non | bl (b : Bool) | int (i : Int) | str (x : Str) | ty (n : String) | ref (a : Addr) | tup (ds : List D) | lst (ds : List D)
  /-- the script -/
  | scr (ns : List Int)
  /-- the def of this global name -/
  | fn (x : Str)
  /-- a function that was made, and what its captured names hold -/
  | clo (F : LFn) (ws : List V) (cs : List D)

/-- an object that may change -/
inductive MO where
  | lst (ds : List D)
  | dk (kvs : List (Key × D))
  /-- a dict whose keys are tuples of whole numbers, nested -/
  | dn (kvs : List (PySem.NestedKey × D))
  | ins (C dx : Addr) (fs : List (Str × D))
  /-- a caught exception's fields -/
  | xd (fs : List (Str × D))
abbrev MS := Addr → Option MO
def um (M : MS) (a : Addr) (o : MO) : MS := fun b => if b = a then some o else M b
theorem um_same {M : MS} {a : Addr} {o : MO} : um M a o a = some o := by unfold um; rw [if_pos rfl]
theorem um_ne {M : MS} {a b : Addr} {o : MO} (h : b ≠ a) : um M a o b = M b := by unfold um; rw [if_neg h]
theorem um_um {M : MS} {a : Addr} {o u : MO} : um (um M a o) a u = um M a u := by
  funext b; unfold um; split <;> rfl
theorem um_self {M : MS} {a : Addr} {o : MO} (h : M a = some o) : um M a o = M := by
  funext b; unfold um; split
  · next e => rw [e, h]
  · rfl
/-- N tells no more than M -/
def Le (N M : MS) : Prop := ∀ a o, N a = some o → M a = some o
theorem Le.refl (M : MS) : Le M M := fun _ _ h => h
theorem Le.trans {A B C : MS} (h : Le A B) (k : Le B C) : Le A C := fun a o e => k a o (h a o e)
theorem Le.um {M : MS} {a : Addr} {o : MO} (h : M a = none) : Le M (um M a o) := fun b u e => by
  rw [um_ne (fun z => by rw [z, h] at e; cases e)]; exact e

/-- a list of the module's own -/
def KL (K : PySem.W.Frag) (p : Addr) (vs : List V) : Prop :=
  ∃ (o : Obj) (its : Array Value) (n : Nat), K.lookup p = some o ∧ o.cls = .type "list" ∧ o.dict = none ∧ o.data = .seq its n ∧ its.size ≤ sizeLine ∧ Vals vs its.toList
/-- the written part; the lists that a comprehension is filling -/
structure ZK where
  K : PySem.W.Frag
  hid : Addr → Option (List V)
/-- an object that nobody changes -/
def Fo (K : ZK) (H : Hp) (M : MS) (p : Addr) (o : HO) : Prop := (M p = none ∧ K.hid p = none) ∧ H p = some o
inductive IsF : HO → Prop
  | lst (vs : List V) : IsF (.lst vs)
  | ext (φ : Heap → Prop) : IsF (.ext φ)
  | tbl (ps : Array Value) : IsF (.tbl ps)
abbrev Fz (K : ZK) (H : Hp) (M : MS) (p : Addr) (vs : List V) : Prop := Fo K H M p (.lst vs)
def FoExt (K : ZK) (H : Hp) (M : MS) (K' : ZK) (H' : Hp) (M' : MS) : Prop := ∀ p o, IsF o → Fo K H M p o → Fo K' H' M' p o
def Sc (K : PySem.W.Frag) (H : Hp) (p : Addr) (vs : List V) : Prop := (∃ ob, H p = some (.frz ob (.lst vs))) ∨ KL K p vs
theorem Fo.sq {K : ZK} {H : Hp} {M : MS} {p : Addr} {vs : List V} (h : Fz K H M p vs) : SqL K.K H p vs := .inl (.inl h.2)
theorem Sc.sq {K : PySem.W.Frag} {H : Hp} {p : Addr} {vs : List V} (h : Sc K H p vs) : SqL K H p vs := by
  rcases h with h | h
  · exact .inl (.inr h)
  · exact .inr h
theorem Fo.le {K : ZK} {H : Hp} {M N : MS} {p : Addr} {o : HO} (h : Fo K H M p o) (l : Le N M) : Fo K H N p o := by
  refine ⟨⟨?_, h.1.2⟩, h.2⟩
  cases q : N p with
  | none => rfl
  | some u => have z := h.1.1; rw [l p u q] at z; cases z

mutual
inductive Rel (K : ZK) (H : Hp) (M : MS) : V → D → Prop
  | non : Rel K H M .non .non
  | bl (b : Bool) : Rel K H M (.bl b) (.bl b)
  | int (i : Int) : Rel K H M (.int i) (.int i)
  | str (x : Str) : Rel K H M (.str x) (.str x)
  | ty (n : String) : Rel K H M (.ty n) (.ty n)
  | ref (a : Addr) : Rel K H M (.ref a) (.ref a)
  | tup {p : Addr} {vs : List V} {ds : List D} : SqT K.K H p vs → RelA K H M vs ds → Rel K H M (.ref p) (.tup ds)
  | lst {p : Addr} {vs : List V} {ds : List D} : Fz K H M p vs → RelA K H M vs ds → Rel K H M (.ref p) (.lst ds)
  | scr {p : Addr} {ns : List Int} : Sc K.K H p (ns.map V.int) → Rel K H M (.ref p) (.scr ns)
  | fn {p : Addr} {x : Str} : PySem.W.nsIn K.K mainGlobals x = some (some (.ref p)) → Rel K H M (.ref p) (.fn x)
  | clo {p : Addr} {F : LFn} {ws : List V} {cs : List D} : Fo K H M p (FnL p F) → Fo K H M F.c (LamX.CodeO F.c F.qual) → RelA K H M ws cs → Rel K H M (.ref p) (.clo F ws cs)
inductive RelA (K : ZK) (H : Hp) (M : MS) : List V → List D → Prop
  | nil : RelA K H M [] []
  | cons {v : V} {vs : List V} {d : D} {ds : List D} : Rel K H M v d → RelA K H M vs ds → RelA K H M (v :: vs) (d :: ds)
end

section
variable {K K' : ZK} {H H' H1 H2 : Hp} {M M' M1 M2 : MS}
mutual
theorem Rel.mono (hN : K'.K = K.K) (hT : ∀ p xs, SqT K.K H p xs → SqT K'.K H' p xs) (hF : ∀ p o, IsF o → (∀ ps, o ≠ .tbl ps) → Fo K H M p o → Fo K' H' M' p o) (hS : ∀ p xs, Sc K.K H p xs → Sc K'.K H' p xs) : ∀ (d : D) (v : V), Rel K H M v d → Rel K' H' M' v d
  | .non, _, h => by cases h; exact .non
  | .bl b, _, h => by cases h; exact .bl b
  | .int b, _, h => by cases h; exact .int b
  | .str b, _, h => by cases h; exact .str b
  | .ty b, _, h => by cases h; exact .ty b
  | .ref b, _, h => by cases h; exact .ref b
  | .tup ds, _, h => by
    cases h with
    | tup a b => exact .tup (hT _ _ a) (Rel.monoA hN hT hF hS ds _ b)
  | .lst ds, _, h => by
    cases h with
    | lst a b => exact .lst (hF _ _ (.lst _) (fun _ z => nomatch z) a) (Rel.monoA hN hT hF hS ds _ b)
  | .scr ns, _, h => by
    cases h with
    | scr a => exact .scr (hS _ _ a)
  | .fn x, _, h => by
    cases h with
    | fn a => exact .fn (by rw [hN]; exact a)
  | .clo F ws cs, _, h => by
    cases h with
    | clo a c b => exact .clo (hF _ _ (.ext _) (fun _ z => nomatch z) a) (hF _ _ (.ext _) (fun _ z => nomatch z) c) (Rel.monoA hN hT hF hS cs _ b)
theorem Rel.monoA (hN : K'.K = K.K) (hT : ∀ p xs, SqT K.K H p xs → SqT K'.K H' p xs) (hF : ∀ p o, IsF o → (∀ ps, o ≠ .tbl ps) → Fo K H M p o → Fo K' H' M' p o) (hS : ∀ p xs, Sc K.K H p xs → Sc K'.K H' p xs) : ∀ (ds : List D) (vs : List V), RelA K H M vs ds → RelA K' H' M' vs ds
  | [], _, h => by cases h; exact .nil
  | d :: ds, _, h => by
    cases h with
    | cons a b => exact .cons (Rel.mono hN hT hF hS d _ a) (Rel.monoA hN hT hF hS ds _ b)
end

/-- whatever was borne is borne -/
def Ext (K : ZK) (H : Hp) (M : MS) (H' : Hp) (M' : MS) : Prop := ∀ v d, Rel K H M v d → Rel K H' M' v d
theorem Ext.refl : Ext K H M H M := fun _ _ h => h
theorem Ext.trans (a : Ext K H M H1 M1) (b : Ext K H1 M1 H2 M2) : Ext K H M H2 M2 := fun v d h => b v d (a v d h)
theorem Ext.of (hT : ∀ p xs, SqT K.K H p xs → SqT K.K H' p xs) (hF : FoExt K H M K H' M') (hS : ∀ p xs, Sc K.K H p xs → Sc K.K H' p xs) : Ext K H M H' M' := fun v d h => Rel.mono rfl hT (fun p o i _ s => hF p o i s) hS d v h
theorem Ext.all (e : Ext K H M H' M') : ∀ {ds : List D} {vs : List V}, RelA K H M vs ds → RelA K H' M' vs ds
  | _, _, .nil => .nil
  | _, _, .cons a b => .cons (e _ _ a) (Ext.all e b)
/-- .. by another view of what is hidden -/
def ExtX (K : ZK) (H : Hp) (M : MS) (K' : ZK) (H' : Hp) (M' : MS) : Prop := ∀ v d, Rel K H M v d → Rel K' H' M' v d
theorem ExtX.of (hT : ∀ p xs, SqT K.K H p xs → SqT K'.K H' p xs) (hF : FoExt K H M K' H' M') (hS : ∀ p xs, Sc K.K H p xs → Sc K'.K H' p xs) (hN : K'.K = K.K := by rfl) : ExtX K H M K' H' M' := fun v d h => Rel.mono hN hT (fun p o i _ s => hF p o i s) hS d v h
theorem ExtX.all (e : ExtX K H M K' H' M') : ∀ {ds : List D} {vs : List V}, RelA K H M vs ds → RelA K' H' M' vs ds
  | _, _, .nil => .nil
  | _, _, .cons a b => .cons (e _ _ a) (ExtX.all e b)
theorem Ext.x (e : Ext K H M H' M') : ExtX K H M K H' M' := e
theorem ExtX.trans {K2 : ZK} (a : ExtX K H M K' H1 M1) (b : ExtX K' H1 M1 K2 H2 M2) : ExtX K H M K2 H2 M2 := fun v d h => b v d (a v d h)
theorem Ext.le (l : Le M' M) : Ext K H M H M' := Ext.of (fun _ _ h => h) (fun _ _ _ h => h.le l) fun _ _ h => h

theorem RelA.length : ∀ {vs : List V} {ds : List D}, RelA K H M vs ds → vs.length = ds.length
  | _, _, .nil => rfl
  | _, _, .cons _ t => by rw [List.length_cons, List.length_cons, RelA.length t]
theorem RelA.get : ∀ {vs : List V} {ds : List D} {i : Nat} {d : D}, RelA K H M vs ds → ds[i]? = some d → ∃ v, vs[i]? = some v ∧ Rel K H M v d
  | _, _, _, _, .nil, e => by simp at e
  | _, _, 0, _, .cons r _, e => by simp at e; subst e; exact ⟨_, rfl, r⟩
  | _, _, i + 1, d, .cons _ t, e => by
    obtain ⟨u, h1, h2⟩ := RelA.get (i := i) (d := d) t (by simpa using e)
    exact ⟨u, by simpa using h1, h2⟩
theorem RelA.getV : ∀ {vs : List V} {ds : List D} {i : Nat} {v : V}, RelA K H M vs ds → vs[i]? = some v → ∃ d, ds[i]? = some d ∧ Rel K H M v d
  | _, _, _, _, .nil, e => by simp at e
  | _, _, 0, _, .cons r _, e => by simp at e; subst e; exact ⟨_, rfl, r⟩
  | _, _, i + 1, d, .cons _ t, e => by
    obtain ⟨u, h1, h2⟩ := RelA.getV (i := i) (v := d) t (by simpa using e)
    exact ⟨u, by simpa using h1, h2⟩
theorem RelA.append : ∀ {vs us : List V} {ds es : List D}, RelA K H M vs ds → RelA K H M us es → RelA K H M (vs ++ us) (ds ++ es)
  | _, _, _, _, .nil, s => s
  | _, _, _, _, .cons r t, s => .cons r (RelA.append t s)
theorem RelA.take : ∀ {vs : List V} {ds : List D} (n : Nat), RelA K H M vs ds → RelA K H M (vs.take n) (ds.take n)
  | _, _, 0, _ => .nil
  | _, _, _ + 1, .nil => .nil
  | _, _, n + 1, .cons r t => .cons r (RelA.take n t)
theorem RelA.drop : ∀ {vs : List V} {ds : List D} (n : Nat), RelA K H M vs ds → RelA K H M (vs.drop n) (ds.drop n)
  | _, _, 0, r => r
  | _, _, _ + 1, .nil => .nil
  | _, _, n + 1, .cons _ t => RelA.drop n t
theorem RelA.set {v : V} {d : D} (r : Rel K H M v d) : ∀ {vs : List V} {ds : List D} (i : Nat), RelA K H M vs ds → RelA K H M (vs.set i v) (ds.set i d)
  | _, _, _, .nil => .nil
  | _, _, 0, .cons _ t => .cons r t
  | _, _, i + 1, .cons q t => .cons q (RelA.set r i t)
theorem RelA.ints : ∀ {vs : List V} {ns : List Int}, RelA K H M vs (ns.map D.int) → vs = ns.map V.int
  | _, [], h => by cases h; rfl
  | _, n :: ns, h => by
    cases h with
    | cons a b => cases a; rw [RelA.ints b]; rfl
theorem relA_ints : ∀ {ns : List Int}, RelA K H M (ns.map V.int) (ns.map D.int)
  | [] => .nil
  | n :: ns => .cons (.int n) relA_ints
theorem RelA.bls : ∀ {vs : List V} {ns : List Bool}, RelA K H M vs (ns.map D.bl) → vs = ns.map V.bl
  | _, [], h => by cases h; rfl
  | _, n :: ns, h => by
    cases h with
    | cons a b => cases a; rw [RelA.bls b]; rfl

/-- pairs by keys -/
inductive RelK {κ : Type} (K : ZK) (H : Hp) (M : MS) : List (κ × V) → List (κ × D) → Prop
  | nil : RelK K H M [] []
  | cons {k : κ} {v : V} {d : D} {vs : List (κ × V)} {ds : List (κ × D)} : Rel K H M v d → RelK K H M vs ds → RelK K H M ((k, v) :: vs) ((k, d) :: ds)
theorem Ext.keys {κ : Type} (e : Ext K H M H' M') : ∀ {ds : List (κ × D)} {vs : List (κ × V)}, RelK K H M vs ds → RelK K H' M' vs ds
  | _, _, .nil => .nil
  | _, _, .cons a b => .cons (e _ _ a) (Ext.keys e b)

theorem ExtX.keys {κ : Type} (e : ExtX K H M K' H' M') : ∀ {ds : List (κ × D)} {vs : List (κ × V)}, RelK K H M vs ds → RelK K' H' M' vs ds
  | _, _, .nil => .nil
  | _, _, .cons a b => .cons (e _ _ a) (ExtX.keys e b)
/-! keys that are tuples of whole numbers -/
mutual
def nkN : PySem.NestedKey → Bool
  | .none => true
  | .num _ => true
  | .text _ => false
  | .tup ks => nkNs ks
def nkNs : List PySem.NestedKey → Bool
  | [] => true
  | k :: ks => nkN k && nkNs ks
end
mutual
/-- the hash, whatever the world -/
def hashN : PySem.NestedKey → Int
  | .none => reduceHash 0xFCA86420
  | .num i => hashInt i
  | .text _ => 0
  | .tup ks => reduceHash (Builtin.Tuple.tupleHashOf (hashNs ks))
def hashNs : List PySem.NestedKey → List Int
  | [] => []
  | k :: ks => hashN k :: hashNs ks
end
mutual
theorem hash_N (w : World) : ∀ k : PySem.NestedKey, nkN k = true → k.hash w = hashN k
  | .none, _ => by rw [PySem.NestedKey.hash, hashN]
  | .num i, _ => by rw [PySem.NestedKey.hash, hashN]
  | .text _, h => by cases h
  | .tup ks, h => by rw [PySem.NestedKey.hash, hashN, hash_Ns w ks h]
theorem hash_Ns (w : World) : ∀ ks : List PySem.NestedKey, nkNs ks = true → PySem.NestedKey.hashes w ks = hashNs ks
  | [], _ => by rw [PySem.NestedKey.hashes, hashNs]
  | k :: ks, h => by
    have h' : (nkN k && nkNs ks) = true := h
    rw [Bool.and_eq_true] at h'
    rw [PySem.NestedKey.hashes, hashNs, hash_N w k h'.1, hash_Ns w ks h'.2]
end
mutual
/-- the key as data -/
def kD : PySem.NestedKey → D
  | .none => .non
  | .num i => .int i
  | .text x => .str x
  | .tup ks => .tup (kDs ks)
def kDs : List PySem.NestedKey → List D
  | [] => []
  | k :: ks => kD k :: kDs ks
end
/-- at a stands a dict with these entries -/
def dnF (a : Addr) (xs : List (PySem.NestedKey × Addr × Value)) (h : Heap) : Prop :=
  (a == sysModules) = false ∧ xs.length ≤ sizeLine ∧ ∃ o es ep, h.get? a = some o ∧ o.ExactDict ∧ o.data = .dict es ep ∧ es.toList = xs.map (fun x => (⟨hashN x.1, .ref x.2.1, x.2.2⟩ : DictEntry)) ∧ (xs.map (·.1)).Nodup
def RelO (K : ZK) (H : Hp) (M : MS) (a : Addr) : MO → Prop
  | .lst ds => ∃ vs, H a = some (.lst vs) ∧ RelA K H M vs ds
  | .dk kvs => ∃ ws, H a = some (.dK ws) ∧ RelK K H M ws kvs
  | .dn kvs => ∃ (xs : List (PySem.NestedKey × Addr × Value)) (ws : List (PySem.NestedKey × V)), H a = some (.ext (dnF a xs)) ∧ Paired (fun p q => p.1 = q.1 ∧ RelV p.2 q.2.2) ws xs ∧
      (∀ q ∈ xs, (nkN q.1 = true ∧ q.1.depth ≤ 8) ∧ Rel K H M (.ref q.2.1) (kD q.1)) ∧ RelK K H M ws kvs
  | .ins C dx fs => ∃ gs, H a = some (.ins C dx gs) ∧ RelK K H M gs fs
  | .xd fs => ∃ gs, H a = some (.xd gs) ∧ RelK K H M gs fs
/-- the tables: each code object that they tell bears the name that its place has -/
def TabM [Tbs] (K : ZK) (H : Hp) (M : MS) : Prop := ∀ p ∈ Tbs.T, ∃ ps : Array Value, Fo K H M p.1 (.tbl ps) ∧ TriplesOk ps.toList ∧ ∀ (pos : Pos) (cv : Value), codeAmong pos ps.toList = some cv → ∃ c, cv = .ref c ∧ Fo K H M c (LamX.CodeO c (p.2 pos.line pos.col))
theorem TabM.mono [Tbs] {K K' : ZK} {H H' : Hp} {M M' : MS} (t : TabM K H M) (hF : FoExt K H M K' H' M') : TabM K' H' M' := fun p hp => by
  obtain ⟨ps, h1, h2, h3⟩ := t p hp
  refine ⟨ps, hF _ _ (.tbl _) h1, h2, fun pos cv hc => ?_⟩
  obtain ⟨c, e1, e2⟩ := h3 pos cv hc
  exact ⟨c, e1, hF _ _ (.ext _) e2⟩
variable [Tbs]
structure RelM (K : ZK) (H : Hp) (M : MS) : Prop where
  at' : ∀ a mo, M a = some mo → RelO K H M a mo
  hid : ∀ a vs, K.hid a = some vs → M a = none ∧ H a = some (.lst vs)
  tab : TabM K H M
theorem RelO.some {a : Addr} {mo : MO} (h : RelO K H M a mo) : ∃ o, H a = some o ∧ (∀ ob u, o ≠ .frz ob u) ∧ ∀ xs, o ≠ .tup xs := by
  cases mo with
  | lst ds => obtain ⟨vs, e, _⟩ := h; exact ⟨_, e, (fun _ _ z => nomatch z), fun _ z => nomatch z⟩
  | dk ds => obtain ⟨vs, e, _⟩ := h; exact ⟨_, e, (fun _ _ z => nomatch z), fun _ z => nomatch z⟩
  | dn ds => obtain ⟨_, vs, e, _⟩ := h; exact ⟨_, e, (fun _ _ z => nomatch z), fun _ z => nomatch z⟩
  | ins C dx fs => obtain ⟨vs, e, _⟩ := h; exact ⟨_, e, (fun _ _ z => nomatch z), fun _ z => nomatch z⟩
  | xd fs => obtain ⟨vs, e, _⟩ := h; exact ⟨_, e, (fun _ _ z => nomatch z), fun _ z => nomatch z⟩
theorem RelO.ext {a : Addr} {mo : MO} (h : RelO K H M a mo) (e : Ext K H M H' M') (k : H' a = H a) : RelO K H' M' a mo := by
  cases mo with
  | lst ds => obtain ⟨vs, q, r⟩ := h; exact ⟨vs, k.trans q, e.all r⟩
  | dk ds => obtain ⟨vs, q, r⟩ := h; exact ⟨vs, k.trans q, e.keys r⟩
  | dn ds => obtain ⟨xs, vs, q, r1, r2, r⟩ := h; exact ⟨xs, vs, k.trans q, r1, fun q hq => ⟨(r2 q hq).1, e _ _ (r2 q hq).2⟩, e.keys r⟩
  | ins C dx fs => obtain ⟨vs, q, r⟩ := h; exact ⟨vs, k.trans q, e.keys r⟩
  | xd fs => obtain ⟨vs, q, r⟩ := h; exact ⟨vs, k.trans q, e.keys r⟩
theorem RelO.extX {a : Addr} {mo : MO} (h : RelO K H M a mo) (e : ExtX K H M K' H' M') (k : H' a = H a) : RelO K' H' M' a mo := by
  cases mo with
  | lst ds => obtain ⟨vs, q, r⟩ := h; exact ⟨vs, k.trans q, e.all r⟩
  | dk ds => obtain ⟨vs, q, r⟩ := h; exact ⟨vs, k.trans q, e.keys r⟩
  | dn ds => obtain ⟨xs, vs, q, r1, r2, r⟩ := h; exact ⟨xs, vs, k.trans q, r1, fun q hq => ⟨(r2 q hq).1, e _ _ (r2 q hq).2⟩, e.keys r⟩
  | ins C dx fs => obtain ⟨vs, q, r⟩ := h; exact ⟨vs, k.trans q, e.keys r⟩
  | xd fs => obtain ⟨vs, q, r⟩ := h; exact ⟨vs, k.trans q, e.keys r⟩
theorem RelM.free (m : RelM K H M) {p : Addr} (h : H p = none) : M p = none := by
  cases q : M p with
  | none => rfl
  | some mo =>
    obtain ⟨o, e, _⟩ := (m.at' p mo q).some
    rw [h] at e; cases e
theorem RelM.le (m : RelM K H M) (l : Le M' M) : RelM K H M' := by
  refine ⟨fun a mo e => (m.at' a mo (l a mo e)).ext (Ext.le l) rfl, fun a vs e => ⟨?_, (m.hid a vs e).2⟩, m.tab.mono fun _ _ _ h => h.le l⟩
  cases q : M' a with
  | none => rfl
  | some u =>
    have z := l a u q
    rw [(m.hid a vs e).1] at z; cases z
theorem RelM.freeH (m : RelM K H M) {p : Addr} (h : H p = none) : K.hid p = none := by
  cases q : K.hid p with
  | none => rfl
  | some vs =>
    have z := (m.hid p vs q).2
    rw [h] at z; cases z

theorem sqT_upd {p q : Addr} {o : HO} {xs : List V} (h : SqT K.K H q xs) (n : H p = none ∨ ∃ u, H p = some u ∧ ∀ ys, u ≠ .tup ys ∧ ∀ ob, u ≠ .frz ob (.tup ys)) : SqT K.K (upd H p o) q xs := by
  rcases h with (h | ⟨ob, h⟩) | h
  · refine .inl (.inl ?_)
    rw [upd_ne]
    · exact h
    · rintro rfl
      rcases n with n | ⟨u, n, z⟩
      · rw [h] at n; cases n
      · rw [h] at n; cases n; exact (z xs).1 rfl
  · refine .inl (.inr ⟨ob, ?_⟩)
    rw [upd_ne]
    · exact h
    · rintro rfl
      rcases n with n | ⟨u, n, z⟩
      · rw [h] at n; cases n
      · rw [h] at n; cases n; exact (z xs).2 ob rfl
  · exact .inr h
/-- a new object that the store doesn't name -/
theorem sc_upd {p q : Addr} {o : HO} {xs : List V} (h : Sc K.K H q xs) (n : H p = none ∨ ∃ u, H p = some u ∧ ∀ ys ob, u ≠ .frz ob (.lst ys)) : Sc K.K (upd H p o) q xs := by
  rcases h with ⟨ob, h⟩ | h
  · refine .inl ⟨ob, ?_⟩
    rw [upd_ne]
    · exact h
    · rintro rfl
      rcases n with n | ⟨u, n, z⟩
      · rw [h] at n; cases n
      · rw [h] at n; cases n; exact z xs ob rfl
  · exact .inr h
theorem fo_new {p : Addr} {o : HO} (h : H p = none) : FoExt K H M K (upd H p o) M := fun q u _ s => ⟨s.1, by rw [upd_ne (ne_of_none s.2 h)]; exact s.2⟩
theorem ext_new (m : RelM K H M) {p : Addr} {o : HO} (h : H p = none) : Ext K H M (upd H p o) M :=
  Ext.of (fun q xs s => sqT_upd s (.inl h)) (fo_new h) fun q xs s => sc_upd s (.inl h)
theorem relM_new (m : RelM K H M) {p : Addr} {o : HO} (h : H p = none) : RelM K (upd H p o) M := by
  refine ⟨fun a mo e => ?_, fun a vs e => ⟨(m.hid a vs e).1, ?_⟩, m.tab.mono (fo_new h)⟩
  · obtain ⟨u, q, _⟩ := (m.at' a mo e).some
    exact (m.at' a mo e).ext (ext_new m h) (upd_ne (ne_of_none q h))
  · have q := (m.hid a vs e).2
    rw [upd_ne (ne_of_none q h)]
    exact q
/-- a new object that the store names -/
theorem fo_alloc {p : Addr} {o : HO} {mo : MO} (h : H p = none) : FoExt K H M K (upd H p o) (um M p mo) := fun q u _ s => ⟨⟨by rw [um_ne (ne_of_none s.2 h)]; exact s.1.1, s.1.2⟩, by rw [upd_ne (ne_of_none s.2 h)]; exact s.2⟩
theorem ext_alloc (m : RelM K H M) {p : Addr} {o : HO} {mo : MO} (h : H p = none) : Ext K H M (upd H p o) (um M p mo) :=
  Ext.of (fun q xs s => sqT_upd s (.inl h)) (fo_alloc h) fun q xs s => sc_upd s (.inl h)
theorem relM_alloc (m : RelM K H M) {p : Addr} {o : HO} {mo : MO} (h : H p = none) (r : RelO K (upd H p o) (um M p mo) p mo) : RelM K (upd H p o) (um M p mo) := by
  refine ⟨fun a u e => ?_, fun a vs e => ?_, m.tab.mono (fo_alloc h)⟩
  · by_cases ha : a = p
    · subst ha; rw [um_same] at e; cases e; exact r
    · rw [um_ne ha] at e
      exact (m.at' a u e).ext (ext_alloc m h) (upd_ne ha)
  · obtain ⟨q1, q2⟩ := m.hid a vs e
    have ne := ne_of_none q2 h
    exact ⟨by rw [um_ne ne]; exact q1, by rw [upd_ne ne]; exact q2⟩
/-- an object of the store is changed -/
theorem fo_write {p : Addr} {o : HO} {mo mu : MO} (h : M p = some mu) : FoExt K H M K (upd H p o) (um M p mo) := fun q u _ s => by
  have hq : q ≠ p := fun z => by have n := s.1.1; rw [z, h] at n; cases n
  exact ⟨⟨by rw [um_ne hq]; exact s.1.1, s.1.2⟩, by rw [upd_ne hq]; exact s.2⟩
theorem ext_write (m : RelM K H M) {p : Addr} {o : HO} {mo mu : MO} (h : M p = some mu) : Ext K H M (upd H p o) (um M p mo) := by
  obtain ⟨u, e, mt, nt⟩ := (m.at' p mu h).some
  exact Ext.of (fun q xs s => sqT_upd s (.inr ⟨u, e, fun ys => ⟨nt ys, fun ob z => mt ob _ z⟩⟩)) (fo_write h) fun q xs s => sc_upd s (.inr ⟨u, e, fun ys ob z => mt ob _ z⟩)
theorem relM_write (m : RelM K H M) {p : Addr} {o : HO} {mo mu : MO} (h : M p = some mu) (r : RelO K (upd H p o) (um M p mo) p mo) : RelM K (upd H p o) (um M p mo) := by
  refine ⟨fun a u e => ?_, fun a vs e => ?_, m.tab.mono (fo_write h)⟩
  · by_cases ha : a = p
    · subst ha; rw [um_same] at e; cases e; exact r
    · rw [um_ne ha] at e
      exact (m.at' a u e).ext (ext_write m h) (upd_ne ha)
  · obtain ⟨q1, q2⟩ := m.hid a vs e
    have ne : a ≠ p := fun z => by rw [z, h] at q1; cases q1
    exact ⟨by rw [um_ne ne]; exact q1, by rw [upd_ne ne]; exact q2⟩

/-! ### slots -/
abbrev Sl := List (Option D)
def RelS (K : ZK) (H : Hp) (M : MS) (σ : St) (ρ : Sl) : Prop := σ.length = ρ.length ∧ ∀ (i : Nat) (d : D), ρ[i]? = some (some d) → ∃ v, σ[i]? = some (some v) ∧ Rel K H M v d
theorem RelS.ext {σ : St} {ρ : Sl} (r : RelS K H M σ ρ) (e : Ext K H M H' M') : RelS K H' M' σ ρ := ⟨r.1, fun i d h => by
  obtain ⟨v, a, b⟩ := r.2 i d h
  exact ⟨v, a, e _ _ b⟩⟩
theorem RelS.extX {σ : St} {ρ : Sl} (r : RelS K H M σ ρ) (e : ExtX K H M K' H' M') : RelS K' H' M' σ ρ := ⟨r.1, fun i d h => by
  obtain ⟨v, a, b⟩ := r.2 i d h
  exact ⟨v, a, e _ _ b⟩⟩
theorem RelS.set {σ : St} {ρ : Sl} (r : RelS K H M σ ρ) {v : V} {d : D} (i : Nat) (h : Rel K H M v d) : RelS K H M (σ.set i (some v)) (ρ.set i (some d)) := by
  refine ⟨by rw [List.length_set, List.length_set]; exact r.1, fun j e he => ?_⟩
  by_cases hj : i = j
  · subst hj
    have hi : i < ρ.length := by
      have := (List.getElem?_eq_some_iff.mp he).1
      simpa using this
    rw [List.getElem?_set_self hi] at he
    cases he
    exact ⟨v, List.getElem?_set_self (by rw [r.1]; exact hi), h⟩
  · rw [List.getElem?_set_ne hj] at he
    rw [List.getElem?_set_ne hj]
    exact r.2 j e he
theorem RelS.clear {σ : St} {ρ : Sl} (r : RelS K H M σ ρ) (i : Nat) : RelS K H M (σ.set i none) (ρ.set i none) := by
  refine ⟨by rw [List.length_set, List.length_set]; exact r.1, fun j e he => ?_⟩
  by_cases hj : i = j
  · subst hj
    have hi : i < ρ.length := by
      have := (List.getElem?_eq_some_iff.mp he).1
      simpa using this
    rw [List.getElem?_set_self hi] at he
    cases he
  · rw [List.getElem?_set_ne hj] at he
    rw [List.getElem?_set_ne hj]
    exact r.2 j e he
def wipeD (ρ : Sl) : List Nat → Sl
  | [] => ρ
  | v :: vs => (wipeD ρ vs).set v none
theorem RelS.wipe {σ : St} {ρ : Sl} (r : RelS K H M σ ρ) : ∀ vs : List Nat, RelS K H M (L2.wipe σ vs) (wipeD ρ vs)
  | [] => r
  | v :: vs => (RelS.wipe r vs).clear v
def startD : List Str → List D → Sl
  | [], _ => []
  | _ :: N, d :: ds => some d :: startD N ds
  | _ :: N, [] => none :: startD N []
theorem startD_at : ∀ {N : List Str} {ds : List D} {i : Nat} {d : D}, (startD N ds)[i]? = some (some d) → ds[i]? = some d
  | [], _, _, _, h => by simp [startD] at h
  | _ :: N, d :: ds, 0, e, h => by simp [startD] at h; simp [h]
  | _ :: N, d :: ds, i + 1, e, h => by simp [startD] at h; simpa using startD_at h
  | _ :: N, [], 0, e, h => by simp [startD] at h
  | _ :: N, [], i + 1, e, h => by simp [startD] at h; simpa using startD_at h
theorem startD_len : ∀ (N : List Str) (ds : List D), (startD N ds).length = N.length
  | [], _ => rfl
  | _ :: N, d :: ds => by simp [startD, startD_len N ds]
  | _ :: N, [] => by simp [startD, startD_len N []]
theorem relS_start {N : List Str} {vs : List V} {ds : List D} (r : RelA K H M vs ds) (hl : ds.length ≤ N.length) : RelS K H M (start N vs) (startD N ds) := by
  have q := r.length
  refine ⟨by rw [startD_len]; unfold start; simp; omega, fun i d h => ?_⟩
  have e := startD_at h
  obtain ⟨v, a, b⟩ := r.get e
  refine ⟨v, ?_, b⟩
  unfold start
  rw [List.getElem?_append_left (by simpa using (List.getElem?_eq_some_iff.mp a).1), List.getElem?_map, a]
  rfl
/-! ### what is raised -/
structure Ex where
  C : Str
  fs : List (Str × D)
def RelX (K : ZK) (H : Hp) (M : MS) (cls : Value) (d : Option Addr) (x : Ex) : Prop :=
  (∃ aC, cls = .ref aC ∧ PySem.W.nsIn K.K mainGlobals x.C = some (some (.ref aC))) ∧ ∃ dx gs, d = some dx ∧ H dx = some (.xd gs) ∧ M dx = none ∧ RelK K H M gs x.fs
end
end L2.DL
/-! DLb: the judgements over data, expressions -/
namespace L2.DL
open PySem PySem.Spec PyProof.Rows
variable [Tbs]

abbrev PD := D → MS → Prop
abbrev XP := Ex → Sl → MS → Prop
abbrev DTE := Sl → PD → XP → MS → Prop
abbrev DTT := Sl → (Bool → MS → Prop) → XP → MS → Prop
abbrev DTA := Sl → (List D → MS → Prop) → XP → MS → Prop
abbrev DTO := Sl → (Option Int → MS → Prop) → XP → MS → Prop
structure DEnds where
  nx : Sl → MS → Prop
  rt : PD
  bk : Sl → MS → Prop := fun _ _ => False
  ct : Sl → MS → Prop := fun _ _ => False
  ex : XP := fun _ _ _ => False
abbrev DTS := DEnds → Sl → MS → Prop

section
variable (K : ZK)
def XOk (H : Hp) (M : MS) (W : WX) (E : XP) : Prop := ∀ x ρ' M' cls d σ' H', E x ρ' M' → RelM K H' M' → RelS K H' M' σ' ρ' → RelX K H' M' cls d x → Ext K H M H' M' → W cls d σ' H'
def Cont (H : Hp) (M : MS) (R : PD) (Q : VK) : Prop := ∀ d M' v H', R d M' → RelM K H' M' → Rel K H' M' v d → Ext K H M H' M' → Q v H'
structure LS (W : WX) (De : Ends) (Dd : DEnds) (H : Hp) (M : MS) : Prop where
  nx : ∀ ρ' M' σ' H', Dd.nx ρ' M' → RelM K H' M' → RelS K H' M' σ' ρ' → Ext K H M H' M' → De.nx σ' H'
  rt : Cont K H M Dd.rt De.rt
  bk : ∀ ρ' M' σ' H', Dd.bk ρ' M' → RelM K H' M' → RelS K H' M' σ' ρ' → Ext K H M H' M' → De.bk σ' H'
  ct : ∀ ρ' M' σ' H', Dd.ct ρ' M' → RelM K H' M' → RelS K H' M' σ' ρ' → Ext K H M H' M' → De.ct σ' H'
  ex : XOk K H M W Dd.ex
end
abbrev Hd := Addr → Option (List V)
section
variable (F : PySem.W.Frag)
def lift (W : WX) (t : DTE) : TE := fun σ H Q => ∃ (z : Hd) (ρ : Sl) (M : MS) (R : PD) (E : XP), RelS ⟨F, z⟩ H M σ ρ ∧ RelM ⟨F, z⟩ H M ∧ t ρ R E M ∧ Cont ⟨F, z⟩ H M R Q ∧ XOk ⟨F, z⟩ H M W E
def liftT (W : WX) (t : DTT) : TT := fun σ H Q => ∃ (z : Hd) (ρ : Sl) (M : MS) (R : Bool → MS → Prop) (E : XP), RelS ⟨F, z⟩ H M σ ρ ∧ RelM ⟨F, z⟩ H M ∧ t ρ R E M ∧ (∀ b M' H', R b M' → RelM ⟨F, z⟩ H' M' → Ext ⟨F, z⟩ H M H' M' → Q b H') ∧ XOk ⟨F, z⟩ H M W E
def liftA (W : WX) (t : DTA) : TA := fun σ H Q => ∃ (z : Hd) (ρ : Sl) (M : MS) (R : List D → MS → Prop) (E : XP), RelS ⟨F, z⟩ H M σ ρ ∧ RelM ⟨F, z⟩ H M ∧ t ρ R E M ∧ (∀ ds M' vs H', R ds M' → RelM ⟨F, z⟩ H' M' → RelA ⟨F, z⟩ H' M' vs ds → Ext ⟨F, z⟩ H M H' M' → Q vs H') ∧ XOk ⟨F, z⟩ H M W E
def liftO (W : WX) (t : DTO) : TO := fun σ H Q => ∃ (z : Hd) (ρ : Sl) (M : MS) (R : Option Int → MS → Prop) (E : XP), RelS ⟨F, z⟩ H M σ ρ ∧ RelM ⟨F, z⟩ H M ∧ t ρ R E M ∧ (∀ o M' H', R o M' → RelM ⟨F, z⟩ H' M' → Ext ⟨F, z⟩ H M H' M' → Q o H') ∧ XOk ⟨F, z⟩ H M W E
def liftS (W : WX) (t : DTS) : TS := fun De σ H => ∃ (z : Hd) (ρ : Sl) (M : MS) (Dd : DEnds), RelS ⟨F, z⟩ H M σ ρ ∧ RelM ⟨F, z⟩ H M ∧ t Dd ρ M ∧ LS ⟨F, z⟩ W De Dd H M
end
section
variable {K : ZK} {H H' : Hp} {M M' : MS} {W : WX} {E : XP} {R : PD} {Q : VK}
theorem XOk.ext (h : XOk K H M W E) (e : Ext K H M H' M') : XOk K H' M' W E := fun x ρ' M2 cls d σ' H2 a b c r f => h x ρ' M2 cls d σ' H2 a b c r (e.trans f)
theorem Cont.ext (h : Cont K H M R Q) (e : Ext K H M H' M') : Cont K H' M' R Q := fun d M2 v H2 a b c f => h d M2 v H2 a b c (e.trans f)
theorem LS.ext {De : Ends} {Dd : DEnds} (h : LS K W De Dd H M) (e : Ext K H M H' M') : LS K W De Dd H' M' :=
  ⟨fun a b c d p q r f => h.nx a b c d p q r (e.trans f), h.rt.ext e, fun a b c d p q r f => h.bk a b c d p q r (e.trans f), fun a b c d p q r f => h.ct a b c d p q r (e.trans f), h.ex.ext e⟩
theorem Cont.here (h : Cont K H M R Q) {d : D} {v : V} (r : R d M) (m : RelM K H M) (q : Rel K H M v d) : Q v H := h d M v H r m q Ext.refl
end

abbrev DE (X : Cx) (W : WX) (e : Expr) (t : DTE) : Prop := PE X e (lift X.K W t)
abbrev DT (X : Cx) (W : WX) (e : Expr) (t : DTT) : Prop := PT X e (liftT X.K W t)
abbrev DW (X : Cx) (W : WX) (e : Expr) (t : DTT) : Prop := PW X e (liftT X.K W t)
abbrev DA (X : Cx) (W : WX) (es : List Expr) (t : DTA) : Prop := PA X es (liftA X.K W t)
abbrev DO (X : Cx) (W : WX) (e : Option Expr) (t : DTO) : Prop := PO X e (liftO X.K W t)
abbrev DS (X : Cx) (W : WX) (st : Stmt) (t : DTS) : Prop := PS X st (liftS X.K W t)
abbrev DSs (X : Cx) (W : WX) (sts : List Stmt) (t : DTS) : Prop := PSs X sts (liftS X.K W t)

theorem imp {X : Cx} {e : Expr} {t u : TE} (h : PE X e t) (hi : ∀ σ H Q, u σ H Q → t σ H Q) : PE X e u := ⟨fun pins s σ H Q I q => h.run pins s σ H Q I (hi σ H Q q)⟩
theorem impT {X : Cx} {e : Expr} {t u : TT} (h : PT X e t) (hi : ∀ σ H Q, u σ H Q → t σ H Q) : PT X e u := ⟨fun pins s σ H Q I q => h.run pins s σ H Q I (hi σ H Q q)⟩
theorem impW {X : Cx} {e : Expr} {t u : TT} (h : PW X e t) (hi : ∀ σ H Q, u σ H Q → t σ H Q) : PW X e u := ⟨fun w pins s σ H Q I q => h.run w pins s σ H Q I (hi σ H Q q)⟩
theorem impA {X : Cx} {e : List Expr} {t u : TA} (h : PA X e t) (hi : ∀ σ H Q, u σ H Q → t σ H Q) : PA X e u := ⟨fun pos pins s σ H Q I q => h.run pos pins s σ H Q I (hi σ H Q q)⟩
theorem impO {X : Cx} {e : Option Expr} {t u : TO} (h : PO X e t) (hi : ∀ σ H Q, u σ H Q → t σ H Q) : PO X e u := ⟨fun pins s σ H Q I q => h.run pins s σ H Q I (hi σ H Q q)⟩
theorem impS {X : Cx} {e : Stmt} {t u : TS} (h : PS X e t) (hi : ∀ D σ H, u D σ H → t D σ H) : PS X e u := ⟨fun pins s σ H Q I q => h.run pins s σ H Q I (hi Q σ H q)⟩
theorem impSs {X : Cx} {e : List Stmt} {t u : TS} (h : PSs X e t) (hi : ∀ D σ H, u D σ H → t D σ H) : PSs X e u := ⟨fun pins s σ H Q I q => h.run pins s σ H Q I (hi Q σ H q)⟩

/-- the i-th slot -/
def sl : Sl → Nat → Option D
  | [], _ => none
  | x :: _, 0 => x
  | _ :: r, n + 1 => sl r n
theorem sl_get : ∀ {ρ : Sl} {i : Nat} {d : D}, sl ρ i = some d → ρ[i]? = some (some d)
  | [], i, d, h => by cases h
  | x :: r, 0, d, h => by have h' : x = some d := h; subst h'; rfl
  | x :: r, n + 1, d, h => by have h' : sl r n = some d := h; simpa using sl_get h'

section
variable {X : Cx} {W : WX} {a b c e : Expr} {ta tb tc te : DTE} {tA tB : DTT} {pos : Pos}

/-! ### names, constants -/
def dVar (i : Nat) : DTE := fun ρ R _ M => match sl ρ i with | some d => R d M | none => False
def dC (d : D) : DTE := fun _ R _ M => R d M
theorem de_var (i : Nat) {x : Str} {pos : Pos} (hN : X.N[i]? = some x := by rfl) (hv : Vis X.env.scope x := by first | exact Or.inl rfl | exact Or.inr (Or.inl rfl) | exact Or.inr (Or.inr rfl)) (hd : (x == ("__debug__" : Str)) = false := by decide)
    (hcd : (x == ("__classdict__" : Str)) = false := by decide) : DE X W (.Name x pos) (dVar i) :=
  imp (pe_var hN hv hd hcd) fun σ H Q ⟨z, ρ, M, R, E, hs, hm, h, hc, _⟩ => by
    unfold dVar at h
    cases q : sl ρ i with
    | none => rw [q] at h; exact h.elim
    | some d =>
      rw [q] at h
      obtain ⟨v, e1, r⟩ := hs.2 i d (sl_get q)
      exact ⟨v, e1, hc.here h hm r⟩
theorem de_c {d : D} {v : V} (h : PE X e (tC v)) (hr : ∀ z H M, Rel ⟨X.K, z⟩ H M v d) : DE X W e (dC d) :=
  imp h fun σ H Q ⟨z, ρ, M, R, E, hs, hm, h, hc, _⟩ => hc.here h hm (hr z H M)
theorem de_int {i j pos} : DE X W (.Constant (.int i) j pos) (dC (.int i)) := de_c pe_int fun _ _ _ => .int _
theorem de_bl {i j pos} : DE X W (.Constant (.bool i) j pos) (dC (.bl i)) := de_c pe_bl fun _ _ _ => .bl _
theorem de_non {j pos} : DE X W (.Constant .none j pos) (dC .non) := de_c pe_non fun _ _ _ => .non
theorem de_str {x j pos} : DE X W (.Constant (.str x) j pos) (dC (.str x)) := de_c pe_str fun _ _ _ => .str _
/-- a def, a class of the text by its name, as a value -/
theorem de_glob {x : Str} {f : Addr} {pos : Pos} (hm : X.mg x = some (.ref f)) (hg : Gl X x := by rfl) (hd : (x == ("__debug__" : Str)) = false := by decide) : DE X W (.Name x pos) (dC (.ref f)) :=
  de_c (v := .ref f) (pe_glob (v := .ref f) hg hm rfl hd) fun _ _ _ => .ref _

/-! ### argument lists, displays -/
def dNil : DTA := fun _ R _ M => R [] M
def dCons (ta : DTE) (tr : DTA) : DTA := fun ρ R E M => ta ρ (fun x M1 => tr ρ (fun xs M2 => R (x :: xs) M2) E M1) E M
theorem da_nil : DA X W [] dNil := impA pa_nil fun σ H Q ⟨z, ρ, M, R, E, hs, hm, h, hc, _⟩ => hc _ _ _ _ h hm .nil Ext.refl
theorem da_cons {es : List Expr} {t : DTA} (ha : DE X W e te) (hr : DA X W es t) (hs : starEach (e :: es) X.env = (false, eval e X.env) :: starEach es X.env := by rfl) : DA X W (e :: es) (dCons te t) :=
  impA (pa_cons ha hr hs) fun σ H Q ⟨z, ρ, M, R, E, hs, hm, h, hc, hE⟩ =>
    ⟨z, ρ, M, _, E, hs, hm, h, fun x M1 v H1 h1 m1 r1 e1 => ⟨z, ρ, M1, _, E, hs.ext e1, m1, h1, fun ds M2 vs H2 h2 m2 r2 e2 => hc _ _ _ _ h2 m2 (.cons (e2 _ _ r1) r2) (e1.trans e2), hE.ext e1⟩, hE⟩
def dTup (t : DTA) : DTE := fun ρ R E M => t ρ (fun ds M1 => ds.length ≤ sizeLine ∧ R (.tup ds) M1) E M
theorem de_tup {es : List Expr} {x1} {t : DTA} (h : DA X W es t) : DE X W (.Tuple es x1 pos) (dTup t) :=
  imp (pe_tup h) fun σ H Q ⟨z, ρ, M, R, E, hs, hm, h, hc, hE⟩ =>
    ⟨z, ρ, M, _, E, hs, hm, h, fun ds M1 vs H1 h1 m1 r1 e1 => ⟨by rw [r1.length]; exact h1.1, fun p hp =>
      hc _ _ _ _ h1.2 (relM_new m1 hp) (.tup (SqT.of upd_same) ((ext_new m1 hp).all r1)) (e1.trans (ext_new m1 hp))⟩, hE⟩
/-- a list that nobody changes -/
def dLst (t : DTA) : DTE := fun ρ R E M => t ρ (fun ds M1 => ds.length ≤ sizeLine ∧ R (.lst ds) M1) E M
theorem fz_new {K : ZK} {H : Hp} {M : MS} {p : Addr} {vs : List V} (m : RelM K H M) (hp : H p = none) : Fz K (upd H p (.lst vs)) M p vs := ⟨⟨m.free hp, m.freeH hp⟩, upd_same⟩
theorem de_lst {es : List Expr} {t : DTA} (h : DA X W es t) : DE X W (.List es pos) (dLst t) :=
  imp (pe_lst h) fun σ H Q ⟨z, ρ, M, R, E, hs, hm, h, hc, hE⟩ =>
    ⟨z, ρ, M, _, E, hs, hm, h, fun ds M1 vs H1 h1 m1 r1 e1 => ⟨by rw [r1.length]; exact h1.1, fun p hp =>
      hc _ _ _ _ h1.2 (relM_new m1 hp) (.lst (fz_new m1 hp) ((ext_new m1 hp).all r1)) (e1.trans (ext_new m1 hp))⟩, hE⟩
/-- a new list of the store -/
def dLstN (t : DTA) : DTE := fun ρ R E M => t ρ (fun ds M1 => ds.length ≤ sizeLine ∧ ∀ p, M1 p = none → R (.ref p) (um M1 p (.lst ds))) E M
theorem alloc_lst {K : ZK} {H : Hp} {M : MS} {p : Addr} {vs : List V} {ds : List D} (m : RelM K H M) (hp : H p = none) (r : RelA K H M vs ds) : RelM K (upd H p (.lst vs)) (um M p (.lst ds)) :=
  relM_alloc m hp ⟨vs, upd_same, (ext_alloc m hp).all r⟩
theorem de_lstN {es : List Expr} {t : DTA} (h : DA X W es t) : DE X W (.List es pos) (dLstN t) :=
  imp (pe_lst h) fun σ H Q ⟨z, ρ, M, R, E, hs, hm, h, hc, hE⟩ =>
    ⟨z, ρ, M, _, E, hs, hm, h, fun ds M1 vs H1 h1 m1 r1 e1 => ⟨by rw [r1.length]; exact h1.1, fun p hp =>
      hc _ _ _ _ (h1.2 p (m1.free hp)) (alloc_lst m1 hp r1) (.ref p) (e1.trans (ext_alloc m1 hp))⟩, hE⟩

/-! ### operations of two values -/
def OpD (X : Cx) (fop : Value → Value → Sem Value) (f : D → D → PD → MS → Prop) : Prop :=
  ∃ r, OpR X fop r ∧ ∀ z H M x y vx vy R Q, RelM ⟨X.K, z⟩ H M → Rel ⟨X.K, z⟩ H M vx x → Rel ⟨X.K, z⟩ H M vy y → f x y R M → Cont ⟨X.K, z⟩ H M R Q → r vx vy H Q
def dOp (f : D → D → PD → MS → Prop) (ta tb : DTE) : DTE := fun ρ R E M => ta ρ (fun x M1 => tb ρ (fun y M2 => f x y R M2) E M1) E M
theorem de_op {op : Operator} {f : D → D → PD → MS → Prop} (o : OpD X (binaryOp op) f) (ha : DE X W a ta) (hb : DE X W b tb) : DE X W (.BinOp a op b pos) (dOp f ta tb) := by
  obtain ⟨r, ho, ad⟩ := o
  exact imp (pe_op ho ha hb) fun σ H Q ⟨z, ρ, M, R, E, hs, hm, h, hc, hE⟩ =>
    ⟨z, ρ, M, _, E, hs, hm, h, fun x M1 vx H1 h1 m1 r1 e1 => ⟨z, ρ, M1, _, E, hs.ext e1, m1, h1, fun y M2 vy H2 h2 m2 r2 e2 => ad _ _ _ _ _ _ _ _ _ m2 (e2 _ _ r1) r2 h2 (hc.ext (e1.trans e2)), hE.ext e1⟩, hE⟩
theorem de_cmp {op : CmpOp} {f : D → D → PD → MS → Prop} (o : OpD X (compareOp op) f) (ha : DE X W a ta) (hb : DE X W b tb) (hm : behindInMarks op b = false := by first | exact nomark _ | rfl) : DE X W (.Compare a [op] [b] pos) (dOp f ta tb) := by
  obtain ⟨r, ho, ad⟩ := o
  exact imp (pe_cmpR ho ha hb hm) fun σ H Q ⟨z, ρ, M, R, E, hs, hm, h, hc, hE⟩ =>
    ⟨z, ρ, M, _, E, hs, hm, h, fun x M1 vx H1 h1 m1 r1 e1 => ⟨z, ρ, M1, _, E, hs.ext e1, m1, h1, fun y M2 vy H2 h2 m2 r2 e2 => ad _ _ _ _ _ _ _ _ _ m2 (e2 _ _ r1) r2 h2 (hc.ext (e1.trans e2)), hE.ext e1⟩, hE⟩
/-- a test that gives True or False -/
def dTst (t : DTE) : DTT := fun ρ R E M => t ρ (fun d M1 => match d with | .bl k => R k M1 | _ => False) E M
theorem dt_cmp {op : CmpOp} {f : D → D → PD → MS → Prop} (o : OpD X (compareOp op) f) (ha : DE X W a ta) (hb : DE X W b tb) (hm : behindInMarks op b = false := by first | exact nomark _ | rfl) : DT X W (.Compare a [op] [b] pos) (dTst (dOp f ta tb)) := by
  obtain ⟨r, ho, ad⟩ := o
  exact impT (pt_cmpR ho ha hb hm) fun σ H Q ⟨z, ρ, M, R, E, hs, hm, h, hc, hE⟩ =>
    ⟨z, ρ, M, _, E, hs, hm, h, fun x M1 vx H1 h1 m1 r1 e1 => ⟨z, ρ, M1, _, E, hs.ext e1, m1, h1, fun y M2 vy H2 h2 m2 r2 e2 => ad _ _ _ _ _ _ _ _ _ m2 (e2 _ _ r1) r2 h2 (fun d M3 v H3 h3 m3 r3 e3 => by
      cases d with
      | bl k => cases r3; exact ⟨k, rfl, hc _ _ _ h3 m3 (e1.trans (e2.trans e3))⟩
      | _ => exact h3.elim), hE.ext e1⟩, hE⟩
def dChain (f g : D → D → PD → MS → Prop) (ta tb tc : DTE) : DTE := fun ρ R E M => ta ρ (fun x M1 => tb ρ (fun y M2 => f x y (fun z M3 => match z with
  | .bl k => if k = true then tc ρ (fun w M4 => g y w R M4) E M3 else R (.bl false) M3
  | _ => False) M2) E M1) E M
theorem de_chain {op op' : CmpOp} {f g : D → D → PD → MS → Prop} (o : OpD X (compareOp op) f) (o' : OpD X (compareOp op') g) (ha : DE X W a ta) (hb : DE X W b tb) (hc : DE X W c tc)
    (hm : lastMarks [op, op'] [b, c] = false := by with_unfolding_all rfl) : DE X W (.Compare a [op, op'] [b, c] pos) (dChain f g ta tb tc) := by
  obtain ⟨r, ho, ad⟩ := o
  obtain ⟨r', ho', ad'⟩ := o'
  exact imp (pe_chain ho ho' ha hb hc hm) fun σ H Q ⟨z, ρ, M, R, E, hs, hm, h, hk, hE⟩ =>
    ⟨z, ρ, M, _, E, hs, hm, h, fun x M1 vx H1 h1 m1 r1 e1 => ⟨z, ρ, M1, _, E, hs.ext e1, m1, h1, fun y M2 vy H2 h2 m2 r2 e2 => ad _ _ _ _ _ _ _ _ _ m2 (e2 _ _ r1) r2 h2 (fun d M3 v H3 h3 m3 r3 e3 => by
      cases d with
      | bl k =>
        cases r3
        refine ⟨k, rfl, ?_⟩
        cases k with
        | true => exact iteT ⟨z, ρ, M3, _, E, hs.ext (e1.trans (e2.trans e3)), m3, h3, fun w M4 vw H4 h4 m4 r4 e4 => ad' _ _ _ _ _ _ _ _ _ m4 ((e3.trans e4) _ _ r2) r4 h4 (hk.ext (e1.trans (e2.trans (e3.trans e4)))), hE.ext (e1.trans (e2.trans e3))⟩
        | false => exact iteF (hk _ _ _ _ h3 m3 (.bl _) (e1.trans (e2.trans e3)))
      | _ => exact h3.elim), hE.ext e1⟩, hE⟩
theorem dt_chain {op op' : CmpOp} {f g : D → D → PD → MS → Prop} (o : OpD X (compareOp op) f) (o' : OpD X (compareOp op') g) (ha : DE X W a ta) (hb : DE X W b tb) (hc : DE X W c tc)
    (hm : lastMarks [op, op'] [b, c] = false := by with_unfolding_all rfl) : DT X W (.Compare a [op, op'] [b, c] pos) (dTst (dChain f g ta tb tc)) := by
  obtain ⟨r, ho, ad⟩ := o
  obtain ⟨r', ho', ad'⟩ := o'
  exact impT (pt_chain ho ho' ha hb hc hm) fun σ H Q ⟨z, ρ, M, R, E, hs, hm, h, hk, hE⟩ =>
    ⟨z, ρ, M, _, E, hs, hm, h, fun x M1 vx H1 h1 m1 r1 e1 => ⟨z, ρ, M1, _, E, hs.ext e1, m1, h1, fun y M2 vy H2 h2 m2 r2 e2 => ad _ _ _ _ _ _ _ _ _ m2 (e2 _ _ r1) r2 h2 (fun d M3 v H3 h3 m3 r3 e3 => by
      cases d with
      | bl k =>
        cases r3
        refine ⟨k, rfl, ?_⟩
        cases k with
        | true => exact iteT ⟨z, ρ, M3, _, E, hs.ext (e1.trans (e2.trans e3)), m3, h3, fun w M4 vw H4 h4 m4 r4 e4 => ad' _ _ _ _ _ _ _ _ _ m4 ((e3.trans e4) _ _ r2) r4 h4 (fun d5 M5 v5 H5 h5 m5 r5 e5 => by
            cases d5 with
            | bl k5 => cases r5; exact ⟨k5, rfl, hk _ _ _ h5 m5 (e1.trans (e2.trans (e3.trans (e4.trans e5))))⟩
            | _ => exact h5.elim), hE.ext (e1.trans (e2.trans e3))⟩
        | false => exact iteF ⟨false, rfl, hk _ _ _ h3 m3 (e1.trans (e2.trans e3))⟩
      | _ => exact h3.elim), hE.ext e1⟩, hE⟩

/-! ### tests -/
end
end L2.DL
/-! DLc: tests, operators, items, slices -/
namespace L2.DL
open PySem PySem.Spec PyProof.Rows
variable [Tbs]

/-! ### data as the library has it -/
mutual
def pd : D → PyData
  | .non => .none | .bl b => .bool b | .int i => .int i | .str x => .str x
  | .tup ds => .tuple (pds ds) | .lst ds => .list (pds ds)
  | .ty _ => .none | .ref _ => .none | .scr _ => .none | .fn _ => .none | .clo _ _ _ => .none
def pds : List D → List PyData
  | [] => []
  | d :: ds => pd d :: pds ds
end
mutual
def isP : D → Bool
  | .non => true | .bl _ => true | .int _ => true | .str _ => true
  | .tup ds => isPs ds | .lst ds => isPs ds
  | .ty _ => false | .ref _ => false | .scr _ => false | .fn _ => false | .clo _ _ _ => false
def isPs : List D → Bool
  | [] => true
  | d :: ds => isP d && isPs ds
end
section
variable {K : ZK} {H : Hp} {M : MS}
mutual
theorem dp_of : ∀ (d : D) (v : V), isP d = true → Rel K H M v d → Dp K.K H v (pd d)
  | .non, _, _, h => by cases h; exact .non
  | .bl b, _, _, h => by cases h; exact .bl b
  | .int b, _, _, h => by cases h; exact .int b
  | .str b, _, _, h => by cases h; exact .str b
  | .tup ds, _, p, h => by
    cases h with
    | tup a b => exact .tup a (dps_of ds _ p b)
  | .lst ds, _, p, h => by
    cases h with
    | lst a b => exact .lst a.sq (dps_of ds _ p b)
  | .ty _, _, p, _ => by cases p
  | .ref _, _, p, _ => by cases p
  | .scr _, _, p, _ => by cases p
  | .fn _, _, p, _ => by cases p
  | .clo _ _ _, _, p, _ => by cases p
theorem dps_of : ∀ (ds : List D) (vs : List V), isPs ds = true → RelA K H M vs ds → DpAll K.K H vs (pds ds)
  | [], _, _, h => by cases h; exact .nil
  | d :: ds, _, p, h => by
    have p' : (isP d && isPs ds) = true := p
    rw [Bool.and_eq_true] at p'
    cases h with
    | cons a b => exact .cons (dp_of d _ p'.1 a) (dps_of ds _ p'.2 b)
end
/-- what is read of a value: a list of the store by its items -/
def Sees (M : MS) : D → D → Prop
  | .ref a, e => ∃ ds, M a = some (.lst ds) ∧ e = .lst ds
  | d, e => e = d
theorem dp_sees (m : RelM K H M) {d e : D} {v : V} (s : Sees M d e) (p : isP e = true) (r : Rel K H M v d) : Dp K.K H v (pd e) := by
  cases d with
  | ref a =>
    obtain ⟨ds, ea, rfl⟩ := s
    cases r
    obtain ⟨vs, q, ra⟩ := m.at' a _ ea
    exact .lst (SqL.of q) (dps_of ds vs p ra)
  | _ => (have s' := s; subst s'; exact dp_of _ v p r)
/-- the items of a list -/
def Ls (M : MS) : D → List D → Prop
  | .lst ds, e => e = ds
  | .ref a, e => M a = some (.lst e)
  | _, _ => False
theorem ls_at (m : RelM K H M) {d : D} {ds : List D} {v : V} (s : Ls M d ds) (r : Rel K H M v d) : ∃ p vs, v = .ref p ∧ H p = some (.lst vs) ∧ RelA K H M vs ds := by
  cases d with
  | ref a =>
    cases r
    obtain ⟨vs, q, ra⟩ := m.at' a _ s
    exact ⟨a, vs, rfl, q, ra⟩
  | lst es =>
    have s' : ds = es := s
    subst s'
    cases r with
    | lst f ra => exact ⟨_, _, rfl, f.2, ra⟩
  | _ => exact (show False from s).elim
end

section
variable {X : Cx} {W : WX} {a b c e : Expr} {ta tb tc te : DTE} {tA tB : DTT} {pos : Pos}

/-! ### truth, tests -/
def truD : D → (Bool → MS → Prop) → MS → Prop
  | .non, R, M => R false M
  | .bl b, R, M => R b M
  | .int i, R, M => R (i != 0) M
  | .str x, R, M => x.length ≤ sizeLine ∧ R ((x.length : Int) != 0) M
  | .tup ds, R, M => R (!ds.isEmpty) M
  | .lst ds, R, M => R (!ds.isEmpty) M
  | .ref a, R, M => ∃ ds, M a = some (.lst ds) ∧ R (!ds.isEmpty) M
  | _, _, _ => False
theorem emp_of {K : ZK} {H : Hp} {M : MS} {vs : List V} {ds : List D} (r : RelA K H M vs ds) : ds.isEmpty = vs.isEmpty := by cases r <;> rfl
theorem tru_of {K : ZK} {H : Hp} {M : MS} {d : D} {v : V} {R : Bool → MS → Prop} (m : RelM K H M) (r : Rel K H M v d) (h : truD d R M) : ∃ k, TruV K.K v H k ∧ R k M := by
  cases d with
  | non => cases r; exact ⟨_, rfl, h⟩
  | bl b => cases r; exact ⟨_, rfl, h⟩
  | int i => cases r; exact ⟨_, rfl, h⟩
  | str x => cases r; exact ⟨_, ⟨h.1, rfl⟩, h.2⟩
  | tup ds =>
    cases r with
    | tup a b => exact ⟨_, .inr (.inl ⟨_, a, rfl⟩), by rw [← emp_of b]; exact h⟩
  | lst ds =>
    cases r with
    | lst a b => exact ⟨_, .inl ⟨_, a.sq, rfl⟩, by rw [← emp_of b]; exact h⟩
  | ref a =>
    obtain ⟨ds, ea, q⟩ := h
    cases r
    obtain ⟨vs, e1, ra⟩ := m.at' a _ ea
    exact ⟨_, .inl ⟨_, SqL.of e1, rfl⟩, by rw [← emp_of ra]; exact q⟩
  | _ => exact (show False from h).elim
def dTru (t : DTE) : DTT := fun ρ R E M => t ρ (fun d M1 => truD d R M1) E M
theorem dt_tru (ha : DE X W a ta) (he : ∀ whole, isTrue a X.env whole = (do let v ← whole; standAt a.pos; holding [v] (truthy v)) := by intro _; rfl) : DT X W a (dTru ta) :=
  impT (pt_truth ha he) fun σ H Q ⟨z, ρ, M, R, E, hs, hm, h, hc, hE⟩ =>
    ⟨z, ρ, M, _, E, hs, hm, h, fun d M1 v H1 h1 m1 r1 e1 => by
      obtain ⟨k, t, q⟩ := tru_of m1 r1 h1
      exact ⟨k, t, hc _ _ _ q m1 e1⟩, hE⟩
def dAnd (t u : DTT) : DTT := fun ρ R E M => t ρ (fun b M1 => if b = true then u ρ R E M1 else R false M1) E M
def dOr (t u : DTT) : DTT := fun ρ R E M => t ρ (fun b M1 => if b = true then R true M1 else u ρ R E M1) E M
def dNot (t : DTT) : DTT := fun ρ R E M => t ρ (fun b M1 => R (!b) M1) E M
theorem dw_and1 (ha : DT X W a tA) : DW X W (.BoolOp .And [a] pos) tA := pw_and1 ha
theorem dw_or1 (ha : DT X W a tA) : DW X W (.BoolOp .Or [a] pos) tA := pw_or1 ha
theorem dw_and {r : List Expr} (ha : DT X W a tA) (hb : DW X W (.BoolOp .And (b :: r) pos) tB) : DW X W (.BoolOp .And (a :: b :: r) pos) (dAnd tA tB) :=
  impW (pw_and ha hb) fun σ H Q ⟨z, ρ, M, R, E, hs, hm, h, hc, hE⟩ =>
    ⟨z, ρ, M, _, E, hs, hm, h, fun k M1 H1 h1 m1 e1 => by
      cases k with
      | true => exact iteT ⟨z, ρ, M1, R, E, hs.ext e1, m1, by simpa using h1, fun k2 M2 H2 h2 m2 e2 => hc _ _ _ h2 m2 (e1.trans e2), hE.ext e1⟩
      | false => exact iteF (hc _ _ _ (by simpa using h1) m1 e1), hE⟩
theorem dw_or {r : List Expr} (ha : DT X W a tA) (hb : DW X W (.BoolOp .Or (b :: r) pos) tB) : DW X W (.BoolOp .Or (a :: b :: r) pos) (dOr tA tB) :=
  impW (pw_or ha hb) fun σ H Q ⟨z, ρ, M, R, E, hs, hm, h, hc, hE⟩ =>
    ⟨z, ρ, M, _, E, hs, hm, h, fun k M1 H1 h1 m1 e1 => by
      cases k with
      | true => exact iteT (hc _ _ _ (by simpa using h1) m1 e1)
      | false => exact iteF ⟨z, ρ, M1, R, E, hs.ext e1, m1, by simpa using h1, fun k2 M2 H2 h2 m2 e2 => hc _ _ _ h2 m2 (e1.trans e2), hE.ext e1⟩, hE⟩
theorem dt_not (ha : DT X W a tA) : DT X W (.UnaryOp .Not a pos) (dNot tA) :=
  impT (pt_not ha) fun σ H Q ⟨z, ρ, M, R, E, hs, hm, h, hc, hE⟩ =>
    ⟨z, ρ, M, _, E, hs, hm, h, fun k M1 H1 h1 m1 e1 => hc _ _ _ h1 m1 e1, hE⟩
/-- and, or, not as values -/
def dAndV (ta tb : DTE) : DTE := fun ρ R E M => ta ρ (fun x M1 => truD x (fun k M2 => if k = true then tb ρ R E M2 else R x M2) M1) E M
def dOrV (ta tb : DTE) : DTE := fun ρ R E M => ta ρ (fun x M1 => truD x (fun k M2 => if k = true then R x M2 else tb ρ R E M2) M1) E M
def dNotV (ta : DTE) : DTE := fun ρ R E M => ta ρ (fun x M1 => truD x (fun k M2 => R (.bl (!k)) M2) M1) E M
theorem de_one {op} (ha : DE X W a ta) : DE X W (.BoolOp op [a] pos) ta := pe_one ha
theorem de_and {r : List Expr} (ha : DE X W a ta) (hb : DE X W (.BoolOp .And (b :: r) pos) tb) : DE X W (.BoolOp .And (a :: b :: r) pos) (dAndV ta tb) :=
  imp (pe_andT ha hb) fun σ H Q ⟨z, ρ, M, R, E, hs, hm, h, hc, hE⟩ =>
    ⟨z, ρ, M, _, E, hs, hm, h, fun d M1 v H1 h1 m1 r1 e1 => by
      obtain ⟨k, t, q⟩ := tru_of m1 r1 h1
      refine ⟨k, t, ?_⟩
      cases k with
      | true => exact iteT ⟨z, ρ, M1, R, E, hs.ext e1, m1, by simpa using q, hc.ext e1, hE.ext e1⟩
      | false => exact iteF (hc _ _ _ _ (by simpa using q) m1 r1 e1), hE⟩
theorem de_or {r : List Expr} (ha : DE X W a ta) (hb : DE X W (.BoolOp .Or (b :: r) pos) tb) : DE X W (.BoolOp .Or (a :: b :: r) pos) (dOrV ta tb) :=
  imp (pe_orT ha hb) fun σ H Q ⟨z, ρ, M, R, E, hs, hm, h, hc, hE⟩ =>
    ⟨z, ρ, M, _, E, hs, hm, h, fun d M1 v H1 h1 m1 r1 e1 => by
      obtain ⟨k, t, q⟩ := tru_of m1 r1 h1
      refine ⟨k, t, ?_⟩
      cases k with
      | true => exact iteT (hc _ _ _ _ (by simpa using q) m1 r1 e1)
      | false => exact iteF ⟨z, ρ, M1, R, E, hs.ext e1, m1, by simpa using q, hc.ext e1, hE.ext e1⟩, hE⟩
theorem de_not (ha : DE X W a ta) : DE X W (.UnaryOp .Not a pos) (dNotV ta) :=
  imp (pe_notT ha) fun σ H Q ⟨z, ρ, M, R, E, hs, hm, h, hc, hE⟩ =>
    ⟨z, ρ, M, _, E, hs, hm, h, fun d M1 v H1 h1 m1 r1 e1 => by
      obtain ⟨k, t, q⟩ := tru_of m1 r1 h1
      exact ⟨k, t, hc _ _ _ _ q m1 (.bl _) e1⟩, hE⟩
def dIf (tA : DTT) (ta tb : DTE) : DTE := fun ρ R E M => tA ρ (fun k M1 => if k = true then ta ρ R E M1 else tb ρ R E M1) E M
theorem de_ifExp (hc : DT X W c tA) (ha : DE X W a ta) (hb : DE X W b tb) : DE X W (.IfExp c a b pos) (dIf tA ta tb) :=
  imp (pe_ifExp hc ha hb) fun σ H Q ⟨z, ρ, M, R, E, hs, hm, h, hk, hE⟩ =>
    ⟨z, ρ, M, _, E, hs, hm, h, fun k M1 H1 h1 m1 e1 => by
      cases k with
      | true => exact iteT ⟨z, ρ, M1, R, E, hs.ext e1, m1, by simpa using h1, hk.ext e1, hE.ext e1⟩
      | false => exact iteF ⟨z, ρ, M1, R, E, hs.ext e1, m1, by simpa using h1, hk.ext e1, hE.ext e1⟩, hE⟩

/-! ### operators -/
def CMulX (i j : Int) : Prop := i.natAbs.log2 + j.natAbs.log2 < 1000000
def CDivX (_ j : Int) : Prop := j ≠ 0 ∧ j.natAbs.log2 < 9000
theorem op_fdivX : OpR X (binaryOp .FloorDiv) (rI CDivX fun i j => .int (i.fdiv j)) := opI fun i j _ _ _ _ _ hc q => floordiv_int hc.1 q (.inl (PyProof.noPylong_of_log2 hc.2))
theorem op_mulX : OpR X (binaryOp .Mult) (rI CMulX fun i j => .int (i * j)) := opI fun i j _ _ _ _ _ hc q => mul_int q (CMulW.ok (show CMulW i j from hc))
def addD : D → D → PD → MS → Prop
  | .int i, .int j, R, M => R (.int (i + j)) M
  | .tup a, .tup b, R, M => a.length + b.length ≤ sizeLine ∧ R (.tup (a ++ b)) M
  | .str a, .str b, R, M => a.length + b.length ≤ sizeLine ∧ R (.str (a ++ b)) M
  | x, y, R, M => ∃ a b, Ls M x a ∧ Ls M y b ∧ a.length + b.length ≤ sizeLine ∧ R (.lst (a ++ b)) M
theorem o_add : OpD X (binaryOp .Add) addD := by
  refine ⟨_, op_add.or (op_catA.or (op_add_str.or op_cat)), fun z H M x y vx vy R Q m rx ry h hc => ?_⟩
  unfold addD at h
  split at h
  · cases rx; cases ry
    exact .inl ⟨_, _, rfl, rfl, hc.here h m (.int _)⟩
  · rename_i a b
    cases rx with
    | tup sx ax =>
      cases ry with
      | tup sy ay =>
        refine .inr (.inl ⟨_, _, _, _, rfl, rfl, sx, sy, by rw [ax.length, ay.length]; exact h.1, fun z => ?_, fun z z2 => ?_, fun z z2 p hp => ?_⟩)
        · subst z; cases ax
          exact hc.here h.2 m (.tup sy ay)
        · subst z2; cases ay
          exact hc.here h.2 m (.tup sx (by rw [List.append_nil]; exact ax))
        · exact hc _ _ _ _ h.2 (relM_new m hp) (.tup (SqT.of upd_same) ((ext_new m hp).all (ax.append ay))) (ext_new m hp)
  · cases rx; cases ry
    exact .inr (.inr (.inl ⟨_, _, rfl, rfl, h.1, hc.here h.2 m (.str _)⟩))
  · obtain ⟨a, b, la, lb, hz, q⟩ := h
    obtain ⟨p1, vs, rfl, h1, r1⟩ := ls_at m la rx
    obtain ⟨p2, us, rfl, h2, r2⟩ := ls_at m lb ry
    exact .inr (.inr (.inr ⟨p1, p2, vs, us, rfl, rfl, h1, h2, by rw [r1.length, r2.length]; exact hz, fun p hp =>
      hc _ _ _ _ q (relM_new m hp) (.lst (fz_new m hp) ((ext_new m hp).all (r1.append r2))) (ext_new m hp)⟩))
def subD : D → D → PD → MS → Prop
  | .int i, .int j, R, M => R (.int (i - j)) M
  | _, _, _, _ => False
theorem o_sub : OpD X (binaryOp .Sub) subD := by
  refine ⟨_, op_sub, fun z H M x y vx vy R Q m rx ry h hc => ?_⟩
  unfold subD at h
  split at h
  · cases rx; cases ry
    exact ⟨_, _, rfl, rfl, hc.here h m (.int _)⟩
  · exact h.elim
def mulD : D → D → PD → MS → Prop
  | .int i, .int j, R, M => CMulX i j ∧ R (.int (i * j)) M
  | x, .int k, R, M => ∃ a, Ls M x a ∧ -(2 ^ 63) ≤ k ∧ k < 2 ^ 63 ∧ a.length * k.toNat ≤ sizeLine ∧ R (.lst (List.replicate k.toNat a).flatten) M
  | _, _, _, _ => False
theorem RelA.rep {K : ZK} {H : Hp} {M : MS} {vs : List V} {ds : List D} (r : RelA K H M vs ds) : ∀ k : Nat, RelA K H M (List.replicate k vs).flatten (List.replicate k ds).flatten
  | 0 => .nil
  | k + 1 => by
    rw [List.replicate_succ, List.replicate_succ, List.flatten_cons, List.flatten_cons]
    exact r.append (RelA.rep r k)
theorem o_mul : OpD X (binaryOp .Mult) mulD := by
  refine ⟨_, op_mulX.or op_rep, fun z H M x y vx vy R Q m rx ry h hc => ?_⟩
  unfold mulD at h
  split at h
  · cases rx; cases ry
    exact .inl ⟨_, _, rfl, rfl, h.1, hc.here h.2 m (.int _)⟩
  · obtain ⟨a, la, h1, h2, hz, q⟩ := h
    obtain ⟨p1, vs, rfl, e1, r1⟩ := ls_at m la rx
    cases ry
    exact .inr ⟨p1, _, vs, rfl, rfl, e1, h1, h2, by rw [r1.length]; exact hz, fun p hp => hc _ _ _ _ q (relM_new m hp) (.lst (fz_new m hp) ((ext_new m hp).all (r1.rep _))) (ext_new m hp)⟩
  · exact h.elim
def fdivD : D → D → PD → MS → Prop
  | .int i, .int j, R, M => CDivX i j ∧ R (.int (i.fdiv j)) M
  | _, _, _, _ => False
theorem o_fdiv : OpD X (binaryOp .FloorDiv) fdivD := by
  refine ⟨_, op_fdivX, fun z H M x y vx vy R Q m rx ry h hc => ?_⟩
  unfold fdivD at h
  split at h
  · cases rx; cases ry
    exact ⟨_, _, rfl, rfl, h.1, hc.here h.2 m (.int _)⟩
  · exact h.elim
def modD : D → D → PD → MS → Prop
  | .int i, .int j, R, M => j ≠ 0 ∧ R (.int (i.fmod j)) M
  | _, _, _, _ => False
theorem o_mod : OpD X (binaryOp .Mod) modD := by
  refine ⟨_, op_modN, fun z H M x y vx vy R Q m rx ry h hc => ?_⟩
  unfold modD at h
  split at h
  · cases rx; cases ry
    exact ⟨_, _, rfl, rfl, h.1, hc.here h.2 m (.int _)⟩
  · exact h.elim
def powD : D → D → PD → MS → Prop
  | .int i, .int j, R, M => CPow i j ∧ R (.int (i ^ j.toNat)) M
  | _, _, _, _ => False
theorem o_pow : OpD X (binaryOp .Pow) powD := by
  refine ⟨_, op_pow, fun z H M x y vx vy R Q m rx ry h hc => ?_⟩
  unfold powD at h
  split at h
  · cases rx; cases ry
    exact ⟨_, _, rfl, rfl, h.1, hc.here h.2 m (.int _)⟩
  · exact h.elim
def andD : D → D → PD → MS → Prop
  | .int i, .int j, R, M => R (.int (Builtin.bitAnd i j)) M
  | _, _, _, _ => False
theorem o_and : OpD X (binaryOp .BitAnd) andD := by
  refine ⟨_, op_and, fun z H M x y vx vy R Q m rx ry h hc => ?_⟩
  unfold andD at h
  split at h
  · cases rx; cases ry
    exact ⟨_, _, rfl, rfl, hc.here h m (.int _)⟩
  · exact h.elim

/-! ### comparisons -/
def iiD (f : Int → Int → Bool) : D → D → PD → MS → Prop
  | .int i, .int j, R, M => R (.bl (f i j)) M
  | _, _, _, _ => False
theorem o_ii {op : CmpOp} {f : Int → Int → Bool} (o : OpR X (compareOp op) (rI0 fun i j => .bl (f i j))) : OpD X (compareOp op) (iiD f) := by
  refine ⟨_, o, fun z H M x y vx vy R Q m rx ry h hc => ?_⟩
  unfold iiD at h
  split at h
  · cases rx; cases ry
    exact ⟨_, _, rfl, rfl, hc.here h m (.bl _)⟩
  · exact h.elim
abbrev ltD := iiD fun i j => decide (i < j)
abbrev leD := iiD fun i j => decide (i ≤ j)
abbrev gtD := iiD fun i j => decide (j < i)
abbrev geD := iiD fun i j => decide (j ≤ i)
theorem o_lt : OpD X (compareOp .Lt) ltD := o_ii op_lt
theorem o_le : OpD X (compareOp .LtE) leD := o_ii op_le
theorem o_gt : OpD X (compareOp .Gt) gtD := o_ii op_gt
theorem o_ge : OpD X (compareOp .GtE) geD := o_ii op_ge
/-- == -/
def eqG (f : Bool → Bool) (x y : D) (R : PD) (M : MS) : Prop := ∃ x' y', Sees M x x' ∧ Sees M y y' ∧ isP x' = true ∧ isP y' = true ∧ SeqAt.shaped (pd x') = true ∧ SeqAt.shaped (pd y') = true ∧ R (.bl (f (PyData.eqv (pd x') (pd y')))) M
def eqD (f : Bool → Bool) : D → D → PD → MS → Prop
  | .int i, .int j, R, M => R (.bl (f (decide (i = j)))) M
  | .str i, .str j, R, M => R (.bl (f (decide (i = j)))) M
  | .bl i, .bl j, R, M => R (.bl (f (decide (i = j)))) M
  | x, y, R, M => eqG f x y R M
theorem eqG_of {H : Hp} {M : MS} {x y : D} {vx vy : V} {R : PD} {Q : VK} {z : Hd} (m : RelM ⟨X.K, z⟩ H M) (rx : Rel ⟨X.K, z⟩ H M vx x) (ry : Rel ⟨X.K, z⟩ H M vy y) (h : eqG id x y R M) (hc : Cont ⟨X.K, z⟩ H M R Q) : rEqD X.K vx vy H Q := by
  obtain ⟨x', y', sx, sy, px, py, hx, hy, q⟩ := h
  exact ⟨_, _, dp_sees m sx px rx, dp_sees m sy py ry, hx, hy, hc.here q m (.bl _)⟩
theorem eqG_ne {H : Hp} {M : MS} {x y : D} {vx vy : V} {R : PD} {Q : VK} {z : Hd} (m : RelM ⟨X.K, z⟩ H M) (rx : Rel ⟨X.K, z⟩ H M vx x) (ry : Rel ⟨X.K, z⟩ H M vy y) (h : eqG (fun k => !k) x y R M) (hc : Cont ⟨X.K, z⟩ H M R Q) : rNeD X.K vx vy H Q := by
  obtain ⟨x', y', sx, sy, px, py, hx, hy, q⟩ := h
  exact ⟨_, _, dp_sees m sx px rx, dp_sees m sy py ry, hx, hy, hc.here q m (.bl _)⟩
theorem o_eq (hu : X.A.units + 64 < cLine) : OpD X (compareOp .Eq) (eqD id) := by
  refine ⟨_, op_eq.or (op_eqD hu), fun z H M x y vx vy R Q m rx ry h hc => ?_⟩
  unfold eqD at h
  split at h
  · cases rx; cases ry
    exact .inl ⟨rfl, hc.here (by simpa [V.int.injEq] using h) m (.bl _)⟩
  · cases rx; cases ry
    exact .inl ⟨rfl, hc.here (by simpa [V.str.injEq] using h) m (.bl _)⟩
  · cases rx; cases ry
    exact .inl ⟨rfl, hc.here (by simpa [V.bl.injEq] using h) m (.bl _)⟩
  · exact .inr (eqG_of m rx ry h hc)
theorem o_ne (hu : X.A.units + 64 < cLine) : OpD X (compareOp .NotEq) (eqD fun k => !k) := by
  refine ⟨_, op_ne.or (op_neD hu), fun z H M x y vx vy R Q m rx ry h hc => ?_⟩
  unfold eqD at h
  split at h
  · cases rx; cases ry
    exact .inl ⟨rfl, hc.here (by simpa [V.int.injEq] using h) m (.bl _)⟩
  · cases rx; cases ry
    exact .inl ⟨rfl, hc.here (by simpa [V.str.injEq] using h) m (.bl _)⟩
  · cases rx; cases ry
    exact .inl ⟨rfl, hc.here (by simpa [V.bl.injEq] using h) m (.bl _)⟩
  · exact .inr (eqG_ne m rx ry h hc)
/-- is None -/
def isNon : D → Bool
  | .non => true
  | _ => false
theorem isNon_of {K : ZK} {H : Hp} {M : MS} {v : V} {d : D} (r : Rel K H M v d) : decide (v = .non) = isNon d := by
  cases r <;> simp [isNon]
def isD (f : Bool → Bool) : D → D → PD → MS → Prop
  | x, .non, R, M => R (.bl (f (isNon x))) M
  | _, _, _, _ => False
theorem o_is : OpD X (compareOp .Is) (isD id) := by
  refine ⟨_, op_isN, fun z H M x y vx vy R Q m rx ry h hc => ?_⟩
  unfold isD at h
  split at h
  · cases ry
    exact ⟨rfl, by rw [isNon_of rx]; exact hc.here h m (.bl _)⟩
  · exact h.elim
theorem o_isnot : OpD X (compareOp .IsNot) (isD fun k => !k) := by
  refine ⟨_, op_notN, fun z H M x y vx vy R Q m rx ry h hc => ?_⟩
  unfold isD at h
  split at h
  · cases ry
    exact ⟨rfl, by rw [isNon_of rx]; exact hc.here h m (.bl _)⟩
  · exact h.elim
/-- -a -/
def UnD (X : Cx) (fop : Value → Sem Value) (f : D → PD → MS → Prop) : Prop :=
  ∃ r, UnR X fop r ∧ ∀ z H M x vx R Q, RelM ⟨X.K, z⟩ H M → Rel ⟨X.K, z⟩ H M vx x → f x R M → Cont ⟨X.K, z⟩ H M R Q → r vx H Q
def dUn (f : D → PD → MS → Prop) (ta : DTE) : DTE := fun ρ R E M => ta ρ (fun x M1 => f x R M1) E M
theorem de_un {op : UnaryOp} {f : D → PD → MS → Prop} (o : UnD X (unaryOp op) f) (ha : DE X W a ta) : DE X W (.UnaryOp op a pos) (dUn f ta) := by
  obtain ⟨r, ho, ad⟩ := o
  exact imp (pe_un ho ha) fun σ H Q ⟨z, ρ, M, R, E, hs, hm, h, hc, hE⟩ =>
    ⟨z, ρ, M, _, E, hs, hm, h, fun x M1 vx H1 h1 m1 r1 e1 => ad _ _ _ _ _ _ _ m1 r1 h1 (hc.ext e1), hE⟩
def negD : D → PD → MS → Prop
  | .int i, R, M => R (.int (-i)) M
  | _, _, _ => False
theorem o_neg : UnD X (unaryOp .USub) negD := by
  refine ⟨_, un_neg, fun z H M x vx R Q m rx h hc => ?_⟩
  unfold negD at h
  split at h
  · cases rx
    exact ⟨_, rfl, hc.here h m (.int _)⟩
  · exact h.elim

/-! ### items, slices -/
def itD (ds : List D) (i : Int) (R : PD) (M : MS) : Prop := match atI ds i with
  | some d => R d M
  | none => False
def ixD : D → D → PD → MS → Prop
  | .tup ds, .int i, R, M => itD ds i R M
  | .lst ds, .int i, R, M => itD ds i R M
  | .str x, .int i, R, M => x.length ≤ sizeLine ∧ match atI x.cps.toList i with
    | some c => R (.str ⟨#[c]⟩) M
    | none => False
  | .ref a, .int i, R, M => ∃ ds, M a = some (.lst ds) ∧ itD ds i R M
  | _, _, _, _ => False
theorem RelA.at {K : ZK} {H : Hp} {M : MS} {vs : List V} {ds : List D} (r : RelA K H M vs ds) {i : Int} {d : D} (h : atI ds i = some d) : ∃ v, atI vs i = some v ∧ Rel K H M v d := by
  unfold atI at h ⊢
  rw [r.length]
  cases q : ixN ds.length i with
  | none => rw [q] at h; cases h
  | some j =>
    rw [q] at h
    exact r.get h
theorem itD_of {K : ZK} {H : Hp} {M : MS} {vs : List V} {ds : List D} {i : Int} {R : PD} {Q : VK} (m : RelM K H M) (r : RelA K H M vs ds) (h : itD ds i R M) (hc : Cont K H M R Q) : ∃ v, atI vs i = some v ∧ Q v H := by
  unfold itD at h
  split at h
  · next d e =>
    obtain ⟨v, e1, r1⟩ := r.at e
    exact ⟨v, e1, hc.here h m r1⟩
  · exact h.elim
def dIx (ta tb : DTE) : DTE := dOp ixD ta tb
theorem de_ix (ha : DE X W a ta) (hb : DE X W b tb) (hs : PlainIx b := by exact fun _ _ => rfl) : DE X W (.Subscript a b pos) (dIx ta tb) :=
  imp (pe_ix ix_seq ha hb hs) fun σ H Q ⟨z, ρ, M, R, E, hs, hm, h, hc, hE⟩ =>
    ⟨z, ρ, M, _, E, hs, hm, h, fun x M1 vx H1 h1 m1 r1 e1 => ⟨z, ρ, M1, _, E, hs.ext e1, m1, h1, fun y M2 vy H2 h2 m2 r2 e2 => by
      have rx := e2 _ _ r1
      have hc2 := hc.ext (e1.trans e2)
      have h2 : ixD x y R M2 := h2
      unfold ixD at h2
      split at h2
      · cases r2
        cases rx with
        | tup s ra =>
          obtain ⟨v, e3, q⟩ := itD_of m2 ra h2 hc2
          exact .inr (.inl ⟨_, _, _, v, rfl, rfl, s, e3, q⟩)
      · cases r2
        cases rx with
        | lst s ra =>
          obtain ⟨v, e3, q⟩ := itD_of m2 ra h2 hc2
          exact .inl ⟨_, _, _, v, rfl, rfl, s.sq, e3, q⟩
      · cases r2; cases rx
        obtain ⟨hz, h3⟩ := h2
        split at h3
        · next c ec => exact .inr (.inr ⟨_, _, c, rfl, rfl, hz, ec, hc2.here h3 m2 (.str _)⟩)
        · exact h3.elim
      · cases r2; cases rx
        obtain ⟨ds, ea, h3⟩ := h2
        obtain ⟨vs, q1, ra⟩ := m2.at' _ _ ea
        obtain ⟨v, e3, q⟩ := itD_of m2 ra h3 hc2
        exact .inl ⟨_, _, _, v, rfl, rfl, SqL.of q1, e3, q⟩
      · exact h2.elim, hE.ext e1⟩, hE⟩
def dNoPart : DTO := fun _ R _ M => R none M
def dPart (t : DTE) : DTO := fun ρ R E M => t ρ (fun d M1 => match d with | .int i => R (some i) M1 | _ => False) E M
theorem do_none : DO X W none dNoPart := impO po_none fun σ H Q ⟨z, ρ, M, R, E, hs, hm, h, hc, hE⟩ => hc _ _ _ h hm Ext.refl
theorem do_some (h : DE X W e te) : DO X W (some e) (dPart te) :=
  impO (po_some h) fun σ H Q ⟨z, ρ, M, R, E, hs, hm, h, hc, hE⟩ =>
    ⟨z, ρ, M, _, E, hs, hm, h, fun d M1 v H1 h1 m1 r1 e1 => by
      cases d with
      | int i => cases r1; exact ⟨i, rfl, hc _ _ _ h1 m1 e1⟩
      | _ => exact h1.elim, hE⟩
def cut {α : Type} (xs : List α) (lo hi : Option Int) : List α := (xs.drop (HT.sIx xs.length 0 lo)).take (HT.sIx xs.length xs.length hi - HT.sIx xs.length 0 lo)
theorem RelA.cut {K : ZK} {H : Hp} {M : MS} {vs : List V} {ds : List D} (r : RelA K H M vs ds) (lo hi : Option Int) : RelA K H M (cutV vs lo hi) (DL.cut ds lo hi) := by
  unfold cutV DL.cut
  rw [r.length]
  exact (r.drop _).take _
theorem cut_whole {α : Type} {xs : List α} {lo hi : Option Int} (h : HT.sIx xs.length 0 lo = 0 ∧ HT.sIx xs.length xs.length hi = xs.length) : cut xs lo hi = xs := by
  unfold cut
  rw [h.1, h.2, List.drop_zero, Nat.sub_zero, List.take_length]
def slD : D → Option Int → Option Int → PD → MS → Prop
  | .tup ds, lo, hi, R, M => R (.tup (cut ds lo hi)) M
  | .lst ds, lo, hi, R, M => R (.lst (cut ds lo hi)) M
  | .scr ns, lo, hi, R, M => R (.lst ((cut ns lo hi).map D.int)) M
  | .ref a, lo, hi, R, M => ∃ ds, M a = some (.lst ds) ∧ R (.lst (cut ds lo hi)) M
  | _, _, _, _, _ => False
theorem cutV_map (ns : List Int) (lo hi : Option Int) : cutV (ns.map V.int) lo hi = (cut ns lo hi).map V.int := by
  unfold cutV cut
  rw [List.length_map, List.map_take, List.map_drop]
def dSl (ta : DTE) (tl th : DTO) : DTE := fun ρ R E M => ta ρ (fun x M1 => tl ρ (fun lo M2 => th ρ (fun hi M3 => slD x lo hi R M3) E M2) E M1) E M
theorem de_slice {lo hi : Option Expr} {p2 : Pos} {tl th : DTO} (ha : DE X W a ta) (hl : DO X W lo tl) (hh : DO X W hi th) : DE X W (.Subscript a (.Slice lo hi none p2) pos) (dSl ta tl th) :=
  imp (pe_slice (sl_list.or sl_tupA) ha hl hh) fun σ H Q ⟨z, ρ, M, R, E, hs, hm, h, hc, hE⟩ =>
    ⟨z, ρ, M, _, E, hs, hm, h, fun x M1 vx H1 h1 m1 r1 e1 => ⟨z, ρ, M1, _, E, hs.ext e1, m1, h1, fun lo M2 H2 h2 m2 e2 => ⟨z, ρ, M2, _, E, hs.ext (e1.trans e2), m2, h2, fun hi M3 H3 h3 m3 e3 => by
      have rx := (e2.trans e3) _ _ r1
      have hc2 := hc.ext (e1.trans (e2.trans e3))
      have h3 : slD x lo hi R M3 := h3
      unfold slD at h3
      split at h3
      · cases rx with
        | tup s ra =>
          refine .inr ⟨_, _, rfl, s, fun z => hc2.here h3 m3 ?_, fun z p hp => hc2 _ _ _ _ h3 (relM_new m3 hp) (.tup (SqT.of upd_same) ((ext_new m3 hp).all (ra.cut _ _))) (ext_new m3 hp)⟩
          rw [ra.length] at z
          rw [cut_whole z]
          exact .tup s ra
      · cases rx with
        | lst s ra => exact .inl ⟨_, _, rfl, s.sq, fun p hp => hc2 _ _ _ _ h3 (relM_new m3 hp) (.lst (fz_new m3 hp) ((ext_new m3 hp).all (ra.cut _ _))) (ext_new m3 hp)⟩
      · cases rx with
        | scr s => exact .inl ⟨_, _, rfl, s.sq, fun p hp => hc2 _ _ _ _ h3 (relM_new m3 hp) (.lst (fz_new m3 hp) (by rw [cutV_map]; exact relA_ints)) (ext_new m3 hp)⟩
      · cases rx
        obtain ⟨ds, ea, h4⟩ := h3
        obtain ⟨vs, q1, ra⟩ := m3.at' _ _ ea
        exact .inl ⟨_, _, rfl, SqL.of q1, fun p hp => hc2 _ _ _ _ h4 (relM_new m3 hp) (.lst (fz_new m3 hp) ((ext_new m3 hp).all (ra.cut _ _))) (ext_new m3 hp)⟩
      · exact h3.elim, hE.ext (e1.trans e2)⟩, hE.ext e1⟩, hE⟩
end
end L2.DL
/-! DLd: targets, statements, loops, comprehensions -/
namespace L2.DL
open PySem PySem.Spec PyProof.Rows
variable [Tbs]

theorem ofT {A B : Prop} (h : if true = true then A else B) : A := by rwa [if_pos rfl] at h
theorem ofF {A B : Prop} (h : if false = true then A else B) : B := by rwa [if_neg Bool.false_ne_true] at h
/-! ### targets -/
inductive Pat where
  | nm (i : Nat)
  | tp (ps : List Pat)
mutual
def patW : Pat → D → Sl → (Sl → MS → Prop) → MS → Prop
  | .nm i, d, ρ, k, M => k (ρ.set i (some d)) M
  | .tp ps, .tup ds, ρ, k, M => patsW ps ds ρ k M
  | .tp ps, .lst ds, ρ, k, M => patsW ps ds ρ k M
  | _, _, _, _, _ => False
def patsW : List Pat → List D → Sl → (Sl → MS → Prop) → MS → Prop
  | [], [], ρ, k, M => k ρ M
  | p :: ps, d :: ds, ρ, k, M => patW p d ρ (fun ρ1 M1 => patsW ps ds ρ1 k M1) M
  | _, _, _, _, _ => False
end
mutual
def Pat.ns : Pat → List Nat
  | .nm i => [i]
  | .tp ps => Pat.nss ps
def Pat.nss : List Pat → List Nat
  | [] => []
  | p :: ps => p.ns ++ Pat.nss ps
end
/-- slots but those of l are as they were -/
def Off (l : List Nat) (σ σ' : St) : Prop := σ'.length = σ.length ∧ ∀ i, i ∉ l → σ'[i]? = σ[i]?
theorem Off.refl (l : List Nat) (σ : St) : Off l σ σ := ⟨rfl, fun _ _ => rfl⟩
theorem Off.set (σ : St) (i : Nat) (v : Option V) : Off [i] σ (σ.set i v) := ⟨List.length_set .., fun j h => by
  rw [List.getElem?_set_ne (by intro z; exact h (by simp [z]))]⟩
theorem Off.trans {l m : List Nat} {a b c : St} (h : Off l a b) (k : Off m b c) : Off (l ++ m) a c := ⟨k.1.trans h.1, fun i hi => by
  rw [List.mem_append, not_or] at hi
  exact (k.2 i hi.2).trans (h.2 i hi.1)⟩
theorem wipe_at {σ : St} {i : Nat} : ∀ {vs : List Nat}, i ∈ vs → i < σ.length → (L2.wipe σ vs)[i]? = some none
  | v :: vs, h, hl => by
    unfold L2.wipe
    by_cases e : v = i
    · subst e
      rw [List.getElem?_set_self (by rw [L2.wipe_length]; exact hl)]
    · rw [List.getElem?_set_ne e]
      exact wipe_at (by simpa [Ne.symm e] using h) hl
theorem wipe_off {σ : St} {i : Nat} : ∀ {vs : List Nat}, i ∉ vs → (L2.wipe σ vs)[i]? = σ[i]?
  | [], _ => rfl
  | v :: vs, h => by
    unfold L2.wipe
    rw [List.mem_cons, not_or] at h
    rw [List.getElem?_set_ne (Ne.symm h.1)]
    exact wipe_off h.2
theorem Off.wipe {l vs : List Nat} {σ σ' : St} (h : Off l (L2.wipe σ vs) σ') (hl : ∀ i ∈ l, i ∈ vs) : L2.wipe σ' vs = L2.wipe σ vs := by
  have hlen : σ'.length = σ.length := by rw [h.1, L2.wipe_length]
  apply List.ext_getElem?
  intro i
  by_cases hi : i ∈ vs
  · by_cases hb : i < σ.length
    · rw [wipe_at hi (by rw [hlen]; exact hb), wipe_at hi hb]
    · rw [List.getElem?_eq_none (by rw [L2.wipe_length, hlen]; omega), List.getElem?_eq_none (by rw [L2.wipe_length]; omega)]
  · rw [wipe_off hi, h.2 i fun z => hi (hl i z)]
def liftG (F : PySem.W.Frag) (p : Pat) : TG := fun v σ H Q => ∃ (z : Hd) (d : D) (ρ : Sl) (M : MS) (k : Sl → MS → Prop), Rel ⟨F, z⟩ H M v d ∧ RelS ⟨F, z⟩ H M σ ρ ∧ RelM ⟨F, z⟩ H M ∧ patW p d ρ k M ∧ ∀ ρ' σ', k ρ' M → RelS ⟨F, z⟩ H M σ' ρ' → Off p.ns σ σ' → Q σ' H
def liftGs (F : PySem.W.Frag) (ps : List Pat) : TGs := fun vs σ H Q => ∃ (z : Hd) (ds : List D) (ρ : Sl) (M : MS) (k : Sl → MS → Prop), RelA ⟨F, z⟩ H M vs ds ∧ RelS ⟨F, z⟩ H M σ ρ ∧ RelM ⟨F, z⟩ H M ∧ patsW ps ds ρ k M ∧ ∀ ρ' σ', k ρ' M → RelS ⟨F, z⟩ H M σ' ρ' → Off (Pat.nss ps) σ σ' → Q σ' H
abbrev DG (X : Cx) (e : Expr) (p : Pat) : Prop := PG X e (liftG X.K p)
abbrev DGs (X : Cx) (es : List Expr) (ps : List Pat) : Prop := PGs X es (liftGs X.K ps)
theorem impG {X : Cx} {e : Expr} {t u : TG} (h : PG X e t) (hi : ∀ v σ H Q, u v σ H Q → t v σ H Q) : PG X e u := ⟨fun pins s σ H v w Q I r q => h.run pins s σ H v w Q I r (hi v σ H Q q)⟩
theorem impGs {X : Cx} {es : List Expr} {t u : TGs} (h : PGs X es t) (hi : ∀ vs σ H Q, u vs σ H Q → t vs σ H Q) : PGs X es u := ⟨fun pins s σ H v w Q I r q => h.run pins s σ H v w Q I r (hi v σ H Q q)⟩
theorem orG {X : Cx} {e : Expr} {t u : TG} (h : PG X e t) (h' : PG X e u) : PG X e (fun v σ H Q => t v σ H Q ∨ u v σ H Q) := ⟨fun pins s σ H v w Q I r q => by
  rcases q with q | q
  · exact h.run pins s σ H v w Q I r q
  · exact h'.run pins s σ H v w Q I r q⟩
section
variable {X : Cx} {W : WX} {e : Expr} {es : List Expr} {p : Pat} {ps : List Pat} {pos : Pos}
theorem dg_nm (i : Nat) {x : Str} (hN : X.N.Nodup) (hi : X.N[i]? = some x := by rfl) (hx : Loc X.env.scope x := by first | exact Or.inl rfl | exact Or.inr rfl) (hf : X.fn x = true ∨ X.env.scope.names.lookup x = some .local := by first | exact .inl rfl | exact .inr rfl) : DG X (.Name x pos) (.nm i) :=
  impG (pg_name hN hi hx hf) fun v σ H Q ⟨z, d, ρ, M, k, r, hs, hm, h, hc⟩ => hc _ _ h (hs.set i r) (Off.set σ i (some v))
theorem dgs_nil : DGs X [] [] := impGs pgs_nil fun vs σ H Q ⟨z, ds, ρ, M, k, r, hs, hm, h, hc⟩ => by
  cases r with
  | nil => exact ⟨rfl, hc _ _ h hs (Off.refl _ _)⟩
  | cons a b => exact (show False from h).elim
theorem dgs_cons (h1 : DG X e p) (h2 : DGs X es ps) (hs : (assignEach (e :: es) X.env).map (·.2) = assign e X.env :: (assignEach es X.env).map (·.2) := by rfl) : DGs X (e :: es) (p :: ps) :=
  impGs (pgs_cons h1 h2 hs) fun vs σ H Q ⟨z, ds, ρ, M, k, r, hs, hm, h, hc⟩ => by
    cases r with
    | nil => exact (show False from h).elim
    | cons a b =>
      exact ⟨_, _, rfl, z, _, ρ, M, _, a, hs, hm, h, fun ρ' σ' h' hs' o => ⟨z, _, ρ', M, k, b, hs', hm, h', fun ρ2 σ2 h2 hs2 o2 => hc ρ2 σ2 h2 hs2 (o.trans o2)⟩⟩
theorem patsW_len {M : MS} : ∀ {ps : List Pat} {ds : List D} {ρ : Sl} {k : Sl → MS → Prop} (_ : patsW ps ds ρ k M) (_ : ∀ ρ', k ρ' M → True), True := fun _ _ => trivial
theorem dg_tup {n : Nat} {j : Nat} (hc : X.calm = true) (h : DGs X es ps) (hl : ∀ ds ρ k M, patsW ps ds ρ k M → ds.length = n)
    (hn : (assignEach es X.env).length = n := by rfl) (hst : (assignEach es X.env).findIdx? (·.1) = none := by rfl) : DG X (.Tuple es j pos) (.tp ps) :=
  impG (orG (pg_tup hc h hn hst) (pg_unl hc h hn hst)) fun v σ H Q ⟨z, d, ρ, M, k, r, hs, hm, h, hc⟩ => by
    cases r with
    | tup s ra =>
      have h : patsW ps _ ρ k M := h
      exact .inl ⟨_, _, rfl, s, by rw [ra.length]; exact hl _ _ _ _ h, z, _, ρ, M, k, ra, hs, hm, h, hc⟩
    | lst s ra =>
      have h : patsW ps _ ρ k M := h
      exact .inr ⟨_, _, rfl, s.sq, by rw [ra.length]; exact hl _ _ _ _ h, z, _, ρ, M, k, ra, hs, hm, h, hc⟩
    | _ => exact (show False from h).elim
end
theorem pl0 : ∀ ds ρ k M, patsW [] ds ρ k M → ds.length = 0
  | [], _, _, _, _ => rfl
  | _ :: _, _, _, _, h => (show False from h).elim

/-! ### statements -/
section
variable {X : Cx} {W : WX} {a b c e : Expr} {te : DTE} {tA : DTT} {st : Stmt} {sts bs cs : List Stmt} {t u : DTS} {pos : Pos}
def dNext : DTS := fun De ρ M => De.nx ρ M
def dSeq (t u : DTS) : DTS := fun De ρ M => t { De with nx := u De } ρ M
theorem dss_nil : DSs X W [] dNext := impSs pss_nil fun De σ H ⟨z, ρ, M, Dd, hs, hm, h, L⟩ => L.nx _ _ _ _ h hm hs Ext.refl
theorem dss_cons (h1 : DS X W st t) (h2 : DSs X W sts u) : DSs X W (st :: sts) (dSeq t u) :=
  impSs (pss_cons h1 h2) fun De σ H ⟨z, ρ, M, Dd, hs, hm, h, L⟩ =>
    ⟨z, ρ, M, _, hs, hm, h, fun ρ' M' σ' H' q m s e => ⟨z, ρ', M', Dd, s, m, q, L.ext e⟩, L.rt, L.bk, L.ct, L.ex⟩
theorem dss_one (h1 : DS X W st t) : DSs X W [st] t := pss_one h1
theorem ds_pass : DS X W (.Pass pos) dNext := impS ps_pass fun De σ H ⟨z, ρ, M, Dd, hs, hm, h, L⟩ => L.nx _ _ _ _ h hm hs Ext.refl
def dBreak : DTS := fun De ρ M => De.bk ρ M
def dCont : DTS := fun De ρ M => De.ct ρ M
theorem ds_break : DS X W (.Break pos) dBreak := impS ps_break fun De σ H ⟨z, ρ, M, Dd, hs, hm, h, L⟩ => L.bk _ _ _ _ h hm hs Ext.refl
theorem ds_cont : DS X W (.Continue pos) dCont := impS ps_continue fun De σ H ⟨z, ρ, M, Dd, hs, hm, h, L⟩ => L.ct _ _ _ _ h hm hs Ext.refl
def dNever : DTS := fun _ _ _ => False
theorem ds_never : DS X W st dNever := impS ps_never fun De σ H ⟨z, ρ, M, Dd, hs, hm, h, L⟩ => h
def dExpr (te : DTE) : DTS := fun De ρ M => te ρ (fun _ M1 => De.nx ρ M1) De.ex M
theorem ds_expr (he : DE X W e te) (hs : swapsWith e none pos.line X.env = pure false := by rfl) : DS X W (.Expr e pos) (dExpr te) :=
  impS (ps_expr he hs) fun De σ H ⟨z, ρ, M, Dd, hs, hm, h, L⟩ =>
    ⟨z, ρ, M, _, _, hs, hm, h, fun d M1 v H1 h1 m1 r1 e1 => L.nx _ _ _ _ h1 m1 (hs.ext e1) e1, L.ex⟩
def dRet (te : DTE) : DTS := fun De ρ M => te ρ De.rt De.ex M
theorem ds_ret (he : DE X W e te) : DS X W (.Return (some e) pos) (dRet te) :=
  impS (ps_ret he) fun De σ H ⟨z, ρ, M, Dd, hs, hm, h, L⟩ => ⟨z, ρ, M, _, _, hs, hm, h, L.rt, L.ex⟩
def dRetN : DTS := fun De _ M => De.rt .non M
theorem ds_retN : DS X W (.Return none pos) dRetN := impS ps_retN fun De σ H ⟨z, ρ, M, Dd, hs, hm, h, L⟩ => L.rt.here h hm .non
def dIfS (tA : DTT) (t u : DTS) : DTS := fun De ρ M => tA ρ (fun k M1 => if k = true then t De ρ M1 else u De ρ M1) De.ex M
theorem ds_if (hc : DT X W c tA) (ha : DSs X W bs t) (hb : DSs X W cs u) : DS X W (.If c bs cs pos) (dIfS tA t u) :=
  impS (ps_if hc ha hb) fun De σ H ⟨z, ρ, M, Dd, hs, hm, h, L⟩ =>
    ⟨z, ρ, M, _, _, hs, hm, h, fun k M1 H1 h1 m1 e1 => by
      cases k with
      | true => exact iteT ⟨z, ρ, M1, Dd, hs.ext e1, m1, by simpa using h1, L.ext e1⟩
      | false => exact iteF ⟨z, ρ, M1, Dd, hs.ext e1, m1, by simpa using h1, L.ext e1⟩, L.ex⟩
def dSet (i : Nat) (te : DTE) : DTS := fun De ρ M => te ρ (fun d M1 => De.nx (ρ.set i (some d)) M1) De.ex M
theorem ds_set (i : Nat) {x : Str} {pos' : Pos} (hN : X.N.Nodup) (he : DE X W e te) (hi : X.N[i]? = some x := by rfl) (hx : Loc X.env.scope x := by first | exact Or.inl rfl | exact Or.inr rfl) (hs : swapsWith e (some (.Name x pos')) pos.line X.env = pure false := by rfl)
    (hf : X.fn x = true ∨ X.env.scope.names.lookup x = some .local := by first | exact .inl rfl | exact .inr rfl) : DS X W (.Assign [.Name x pos'] e pos) (dSet i te) :=
  impS (ps_set hN hi hx he hs hf) fun De σ H ⟨z, ρ, M, Dd, hs, hm, h, L⟩ =>
    ⟨z, ρ, M, _, _, hs, hm, h, fun d M1 v H1 h1 m1 r1 e1 => L.nx _ _ _ _ h1 m1 ((hs.ext e1).set i r1) e1, L.ex⟩
/-- several targets out of one value -/
def dAsg (p : Pat) (te : DTE) : DTS := fun De ρ M => te ρ (fun d M1 => patW p d ρ De.nx M1) De.ex M
theorem ds_asg {tg : Expr} {p : Pat} (he : DE X W e te) (hg : DG X tg p) (hs : swapsWithSole [tg] e pos.line X.env = pure false := by rfl) (hw : swappedStores [tg] e X.env = pure none := by rfl)
    (h1 : (assignEach [tg] X.env).map (·.2) = [assign tg X.env] := by rfl) : DS X W (.Assign [tg] e pos) (dAsg p te) :=
  impS (ps_asg he hg hs hw h1) fun De σ H ⟨z, ρ, M, Dd, hs, hm, h, L⟩ =>
    ⟨z, ρ, M, _, _, hs, hm, h, fun d M1 v H1 h1 m1 r1 e1 => ⟨z, d, ρ, M1, Dd.nx, r1, hs.ext e1, m1, h1, fun ρ' σ' q s _ => L.nx _ _ _ _ q m1 s e1⟩, L.ex⟩
/-- a, b = x, y -/
def dPar (i j : Nat) (ta : DTA) : DTS := fun De ρ M => ta ρ (fun ds M1 => match ds with | [x, y] => De.nx ((ρ.set i (some x)).set j (some y)) M1 | _ => False) De.ex M
theorem ds_par (i j : Nat) {x y : Str} {px py pt pt2 : Pos} {kt k2 : Nat} {ta : DTA} (hc : X.calm = true) (hN : X.N.Nodup) (ha : DA X W [a, b] ta) (hi : X.N[i]? = some x := by rfl) (hj : X.N[j]? = some y := by rfl) (hij : i ≠ j := by decide)
    (hx : X.env.scope.names.lookup x = some .local := by rfl) (hy : X.env.scope.names.lookup y = some .local := by rfl)
    (hw : swappedStores [.Tuple [.Name x px, .Name y py] kt pt] (.Tuple [a, b] k2 pt2) X.env = pure (some [x, y]) := by rfl)
    (hs : swapsWithSole [.Tuple [.Name x px, .Name y py] kt pt] (.Tuple [a, b] k2 pt2) pos.line X.env = pure false := by rfl) :
    DS X W (.Assign [.Tuple [.Name x px, .Name y py] kt pt] (.Tuple [a, b] k2 pt2) pos) (dPar i j ta) :=
  impS (ps_par hc hN hi hj hij hx hy ha hw hs) fun De σ H ⟨z, ρ, M, Dd, hs, hm, h, L⟩ =>
    ⟨z, ρ, M, _, _, hs, hm, h, fun ds M1 vs H1 h1 m1 r1 e1 => by
      cases r1 with
      | nil => exact (show False from h1).elim
      | cons a1 r1 =>
        cases r1 with
        | nil => exact (show False from h1).elim
        | cons a2 r1 =>
          cases r1 with
          | nil => exact ⟨_, _, rfl, L.nx _ _ _ _ h1 m1 (((hs.ext e1).set i a1).set j a2) e1⟩
          | cons a3 r1 => exact (show False from h1).elim, L.ex⟩
/-- a op= b at a name -/
def PIpD (X : Cx) (op : Operator) (f : D → D → PD → MS → Prop) : Prop :=
  ∃ r, PIp X op r ∧ ∀ z H M x y vx vy R Q, RelM ⟨X.K, z⟩ H M → Rel ⟨X.K, z⟩ H M vx x → Rel ⟨X.K, z⟩ H M vy y → f x y R M → Cont ⟨X.K, z⟩ H M R Q → r vx vy H Q
def dAug (i : Nat) (te : DTE) (f : D → D → PD → MS → Prop) : DTS := fun De ρ M => match sl ρ i with
  | some x => te ρ (fun y M1 => f x y (fun d M2 => De.nx (ρ.set i (some d)) M2) M1) De.ex M
  | none => False
theorem ds_aug (i : Nat) {x : Str} {op : Operator} {f : D → D → PD → MS → Prop} {pos' : Pos} (hN : X.N.Nodup) (he : DE X W e te) (ho : PIpD X op f) (hi : X.N[i]? = some x := by rfl) (hx : Loc X.env.scope x := by first | exact Or.inl rfl | exact Or.inr rfl)
    (hf : X.fn x = true ∨ X.env.scope.names.lookup x = some .local := by first | exact .inl rfl | exact .inr rfl) : DS X W (.AugAssign (.Name x pos') op e pos) (dAug i te f) := by
  obtain ⟨r, hr, ad⟩ := ho
  exact impS (ps_aug hN hi hx he hr hf) fun De σ H ⟨z, ρ, M, Dd, hs, hm, h, L⟩ => by
    have h : (match sl ρ i with
      | some x => te ρ (fun y M1 => f x y (fun d M2 => Dd.nx (ρ.set i (some d)) M2) M1) Dd.ex M
      | none => False) := h
    cases q : sl ρ i with
    | none => rw [q] at h; exact h.elim
    | some d =>
      rw [q] at h
      obtain ⟨v, e1, r1⟩ := hs.2 i d (sl_get q)
      exact ⟨v, e1, z, ρ, M, _, _, hs, hm, h, fun y M1 vy H1 h1 m1 r2 e2 => ad _ _ _ _ _ _ _ _ _ m1 (e2 _ _ r1) r2 h1 fun d' M2 v' H2 h2 m2 r3 e3 => L.nx _ _ _ _ h2 m2 ((hs.ext (e2.trans e3)).set i r3) (e2.trans e3), L.ex⟩
def augI (f : Int → Int → Int) : D → D → PD → MS → Prop
  | .int i, .int j, R, M => R (.int (f i j)) M
  | _, _, _, _ => False
theorem a_ii {op : Operator} {f : Int → Int → Int} (h : PIp X op (ipI f)) : PIpD X op (augI f) := by
  refine ⟨_, h, fun z H M x y vx vy R Q m rx ry h hc => ?_⟩
  unfold augI at h
  split at h
  · cases rx; cases ry
    exact ⟨_, _, rfl, rfl, hc.here h m (.int _)⟩
  · exact h.elim
theorem a_add : PIpD X .Add (augI fun i j => i + j) := a_ii ip_add
theorem a_sub : PIpD X .Sub (augI fun i j => i - j) := a_ii ip_sub

/-- o[i] = e -/
def setLD : D → D → D → (MS → Prop) → MS → Prop
  | .ref a, .int k, d, R, M => ∃ ds j, M a = some (.lst ds) ∧ ixN ds.length k = some j ∧ R (um M a (.lst (ds.set j d)))
  | _, _, _, _, _ => False
def dSub (te to ti : DTE) : DTS := fun De ρ M => te ρ (fun d M1 => to ρ (fun o M2 => ti ρ (fun i M3 => setLD o i d (fun M4 => De.nx ρ M4) M3) De.ex M2) De.ex M1) De.ex M
theorem ds_sub {o i : Expr} {to ti : DTE} {pt : Pos} (he : DE X W e te) (ho : DE X W o to) (hi : DE X W i ti) (hs : swapsWithSole [.Subscript o i pt] e pos.line X.env = pure false := by rfl) (hw : swappedStores [.Subscript o i pt] e X.env = pure none := by rfl)
    (h1 : (assignEach [.Subscript o i pt] X.env).map (·.2) = [assign (.Subscript o i pt) X.env] := by rfl)
    (ha : ∀ v, assign (.Subscript o i pt) X.env v = (do
      let ov ← holding [v] (eval o X.env)
      let iv ← holding [v, ov] (eval i X.env)
      standAt pt
      holding [v, ov, iv] (setItem ov iv v)
      release [v, ov, iv] []) := by intro _; rfl) : DS X W (.Assign [.Subscript o i pt] e pos) (dSub te to ti) :=
  impS (ps_asg he (pg_sub ho hi set_list ha) hs hw h1) fun De σ H ⟨z, ρ, M, Dd, hs, hm, h, L⟩ =>
    ⟨z, ρ, M, _, _, hs, hm, h, fun d M1 v H1 h1 m1 r1 e1 => ⟨z, ρ, M1, _, _, hs.ext e1, m1, h1, fun oo M2 vo H2 h2 m2 r2 e2 =>
      ⟨z, ρ, M2, _, _, hs.ext (e1.trans e2), m2, h2, fun ii M3 vi H3 h3 m3 r3 e3 => by
        have ro := e3 _ _ r2
        have rd := (e2.trans e3) _ _ r1
        cases oo with
        | ref a =>
          cases ii with
          | int k =>
            cases ro; cases r3
            obtain ⟨ds, j, ea, ej, q⟩ := h3
            obtain ⟨vs, eh, ra⟩ := m3.at' _ _ ea
            have w : Ext ⟨X.K, z⟩ H3 M3 (upd H3 a (.lst (vs.set j v))) (um M3 a (.lst (ds.set j d))) := ext_write m3 ea
            exact ⟨_, vs, _, j, rfl, rfl, eh, by rw [ra.length]; exact ej, L.nx _ _ _ _ q (relM_write m3 ea ⟨_, upd_same, w.all (ra.set rd j)⟩) ((hs.ext (e1.trans (e2.trans e3))).ext w) (e1.trans (e2.trans (e3.trans w)))⟩
          | _ => exact (show False from h3).elim
        | _ => exact (show False from h3).elim, (L.ext (e1.trans e2)).ex⟩, (L.ext e1).ex⟩, L.ex⟩
end

/-! ### what is walked -/
abbrev DTI := Sl → (List D → MS → Prop) → XP → MS → Prop
/-- what is hidden stays hidden -/
def HidLe (K K' : ZK) : Prop := K'.K = K.K ∧ ∀ a vs, K.hid a = some vs → K'.hid a = some vs
theorem HidLe.refl (K : ZK) : HidLe K K := ⟨rfl, fun _ _ h => h⟩
structure ItOk (K : ZK) (J : It) (items : List D) (H : Hp) (M : MS) : Prop where
  go : ∀ K' i H' M', HidLe K K' → i < items.length → RelM K' H' M' → ExtX K H M K' H' M' → J.go i H'
  stop : ∀ K' H' M', HidLe K K' → RelM K' H' M' → ExtX K H M K' H' M' → J.stop items.length H'
  yld : ∀ K' i x H' M' H'', HidLe K K' → i < items.length → RelM K' H' M' → ExtX K H M K' H' M' → J.yld i H' x H'' → ∃ d, items[i]? = some d ∧ Rel K' H'' M' x d ∧ RelM K' H'' M' ∧ Ext K' H' M' H'' M'
def liftI (F : PySem.W.Frag) (W : WX) (t : DTI) : TI := fun σ H Q => ∃ (z : Hd) (ρ : Sl) (M : MS) (R : List D → MS → Prop) (E : XP), RelS ⟨F, z⟩ H M σ ρ ∧ RelM ⟨F, z⟩ H M ∧ t ρ R E M ∧
  (∀ items M' H' J, R items M' → RelM ⟨F, z⟩ H' M' → Ext ⟨F, z⟩ H M H' M' → ItOk ⟨F, z⟩ J items H' M' → Q J H') ∧ XOk ⟨F, z⟩ H M W E
abbrev DI (X : Cx) (W : WX) (tg it : Expr) (t : DTI) : Prop := PI X tg it (liftI X.K W t)
theorem impI {X : Cx} {tg e : Expr} {t u : TI} (h : PI X tg e t) (hi : ∀ σ H Q, u σ H Q → t σ H Q) : PI X tg e u := ⟨fun pins s σ H Q I q => h.run pins s σ H Q I (hi σ H Q q)⟩
theorem orI {X : Cx} {tg e : Expr} {t u : TE} {ti ui : TI} (h : PI X tg e ti) : True := trivial
section
variable {K : ZK} {H : Hp} {M : MS}
theorem itOk_list {p : Addr} {ds : List D} (r : Rel K H M (.ref p) (.lst ds)) : ItOk K (Itl K.K p) ds H M where
  go := fun K' i H' M' hk hi m e => by
    cases e _ _ r with
    | lst s ra =>
      obtain ⟨v, a, _⟩ := ra.get (List.getElem?_eq_getElem hi)
      exact ⟨_, v, (hk.1 ▸ s.sq), a⟩
  stop := fun K' H' M' hk m e => by
    cases e _ _ r with
    | lst s ra => exact ⟨_, (hk.1 ▸ s.sq), Nat.le_of_eq ra.length⟩
  yld := fun K' i x H' M' H'' hk hi m e y => by
    obtain ⟨rfl, y⟩ := y
    cases e _ _ r with
    | lst s ra =>
      obtain ⟨d, a, b⟩ := ra.getV (y _ (hk.1 ▸ s.sq))
      exact ⟨d, a, b, m, Ext.refl⟩
theorem itOk_tup {p : Addr} {ds : List D} (r : Rel K H M (.ref p) (.tup ds)) : ItOk K (Itt K.K p) ds H M where
  go := fun K' i H' M' hk hi m e => by
    cases e _ _ r with
    | tup s ra =>
      obtain ⟨v, a, _⟩ := ra.get (List.getElem?_eq_getElem hi)
      exact ⟨_, v, hk.1 ▸ s, a⟩
  stop := fun K' H' M' hk m e => by
    cases e _ _ r with
    | tup s ra => exact ⟨_, hk.1 ▸ s, Nat.le_of_eq ra.length⟩
  yld := fun K' i x H' M' H'' hk hi m e y => by
    obtain ⟨rfl, y⟩ := y
    cases e _ _ r with
    | tup s ra =>
      obtain ⟨d, a, b⟩ := ra.getV (y _ (hk.1 ▸ s))
      exact ⟨d, a, b, m, Ext.refl⟩
/-- a list of the store, locked -/
theorem itOk_lock {p : Addr} {vs : List V} {ds : List D} (h : K.hid p = some vs) (r : RelA K H M vs ds) : ItOk K (Itl K.K p) ds H M where
  go := fun K' i H' M' hk hi m e => by
    obtain ⟨v, a, _⟩ := r.get (List.getElem?_eq_getElem hi)
    exact ⟨vs, v, SqL.of (m.hid p vs (hk.2 p vs h)).2, a⟩
  stop := fun K' H' M' hk m e => ⟨vs, SqL.of (m.hid p vs (hk.2 p vs h)).2, Nat.le_of_eq r.length⟩
  yld := fun K' i x H' M' H'' hk hi m e y => by
    obtain ⟨rfl, y⟩ := y
    obtain ⟨d, a, b⟩ := (e.all r).getV (y _ (SqL.of (m.hid p vs (hk.2 p vs h)).2))
    exact ⟨d, a, b, m, Ext.refl⟩
def rng (lo : Int) (n : Nat) : List D := (List.range n).map fun (i : Nat) => D.int (lo + i)
theorem itOk_rng {lo : Int} {n : Nat} : ItOk K (Itr lo n) (rng lo n) H M where
  go := fun K' i H' M' hk hi m e => by
    have h : i < n := by simpa [rng] using hi
    exact h
  stop := fun K' H' M' hk m e => by
    show n ≤ (rng lo n).length
    simp [rng]
  yld := fun K' i x H' M' H'' hk hi m e y => by
    obtain ⟨rfl, rfl⟩ := y
    have h : i < n := by simpa [rng] using hi
    refine ⟨.int (lo + i), ?_, .int _, m, Ext.refl⟩
    unfold rng
    rw [List.getElem?_map, List.getElem?_range h]
    rfl
end
section
variable {X : Cx} {W : WX} {a b c e tg it : Expr} {te ta tb : DTE} {tA : DTT} {bs : List Stmt} {t : DTS} {w : DTI} {p : Pat} {pos : Pos}
/-- a list that nobody changes, a tuple -/
def dItems (te : DTE) : DTI := fun ρ R E M => te ρ (fun d M1 => match d with
  | .lst ds => R ds M1
  | .tup ds => R ds M1
  | _ => False) E M
theorem di_items (he : DE X W e te) : DI X W tg e (dItems te) := by
  refine ⟨fun pins s σ H R I ⟨z, ρ, M, R', E, hs, hm, h, hc, hE⟩ => ?_⟩
  refine thn (he.run pins s σ H (fun v H1 => (∃ p vs J, v = .ref p ∧ SqL X.K H1 p vs ∧ J = Itl X.K p ∧ R J H1) ∨ ∃ p vs J, v = .ref p ∧ SqT X.K H1 p vs ∧ J = Itt X.K p ∧ R J H1) I
    ⟨z, ρ, M, _, E, hs, hm, h, fun d M1 v H1 h1 m1 r1 e1 => ?_, hE⟩) fun u s1 ⟨v, H1, I1, ru, q⟩ => ?_
  · cases d with
    | lst ds =>
      cases r1 with
      | lst sq ra => exact .inl ⟨_, _, _, rfl, sq.sq, rfl, hc ds M1 H1 _ h1 m1 e1 (itOk_list (.lst sq ra))⟩
    | tup ds =>
      cases r1 with
      | tup sq ra => exact .inr ⟨_, _, _, rfl, sq, rfl, hc ds M1 H1 _ h1 m1 e1 (itOk_tup (.tup sq ra))⟩
    | _ => exact (show False from h1).elim
  · rcases q with ⟨p, vs, J, rfl, sq, rfl, q⟩ | ⟨p, vs, J, rfl, sq, rfl, q⟩
    · cases ru
      obtain ⟨its, rv, pl, hz⟩ := I1.list sq
      refine wpAny_pyIter_list pl.isList ⟨s1.heap.objs.size, [s1.heap.objs.size], _, _, H1, rfl, I1.kept (t' := s1.toks) fun b o e => Heap.get?_push_of_some _ e, turn_list p _, ⟨_, Heap.get?_push_size _ rfl, rfl, rfl⟩, fun b hb => ?_, q⟩
      rw [List.mem_singleton] at hb
      rw [hb]
      exact I1.fpOk (Nat.le_refl _) (I1.hok.fresh (Nat.le_refl _))
    · cases ru
      obtain ⟨its, rv, pl, hz⟩ := I1.tuple sq
      refine wpAny_pyIter_tuple (show s1.heap.IsTuple p its.toArray from pl) ⟨s1.heap.objs.size, [s1.heap.objs.size], _, _, H1, rfl, I1.kept (t' := s1.toks) fun b o e => Heap.get?_push_of_some _ e, turn_tuple p _, ⟨_, Heap.get?_push_size _ rfl, rfl, rfl⟩, fun b hb => ?_, q⟩
      rw [List.mem_singleton] at hb
      rw [hb]
      exact I1.fpOk (Nat.le_refl _) (I1.hok.fresh (Nat.le_refl _))
/-- range(n), range(a, b) -/
def dRng1 (t : DTA) : DTI := fun ρ R E M => t ρ (fun ds M1 => match ds with
  | [.int j] => -(2 ^ 62) ≤ j ∧ j < 2 ^ 62 ∧ R (rng 0 j.toNat) M1
  | _ => False) E M
def dRng2 (t : DTA) : DTI := fun ρ R E M => t ρ (fun ds M1 => match ds with
  | [.int i, .int j] => (-(2 ^ 62) ≤ i ∧ i < 2 ^ 62 ∧ -(2 ^ 62) ≤ j ∧ j < 2 ^ 62) ∧ R (rng i (j - i).toNat) M1
  | _ => False) E M
theorem di_rng1 {t : DTA} {pp : Pos} (hm : X.mg "range" = none) (ha : DA X W [a] t) (hg : Gl X "range" := by rfl) (hs : starEach [a] X.env = [(false, eval a X.env)] := by rfl) : DI X W tg (.Call (.Name "range" pp) [a] [] pos) (dRng1 t) :=
  impI (pi_range1 hg hm ha hs) fun σ H Q ⟨z, ρ, M, R, E, hs, hm, h, hc, hE⟩ =>
    ⟨z, ρ, M, _, E, hs, hm, h, fun ds M1 vs H1 h1 m1 r1 e1 => by
      split at h1
      · cases r1 with
        | cons x y =>
          cases x; cases y
          exact ⟨_, rfl, h1.1, h1.2.1, hc _ _ _ _ h1.2.2 m1 e1 itOk_rng⟩
      · exact h1.elim, hE⟩
theorem di_rng2 {t : DTA} {pp : Pos} (hm : X.mg "range" = none) (ha : DA X W [a, b] t) (hg : Gl X "range" := by rfl) (hs : starEach [a, b] X.env = [(false, eval a X.env), (false, eval b X.env)] := by rfl) (hs2 : starEach [b] X.env = [(false, eval b X.env)] := by rfl) :
    DI X W tg (.Call (.Name "range" pp) [a, b] [] pos) (dRng2 t) :=
  impI (pi_range2 hg hm ha hs hs2) fun σ H Q ⟨z, ρ, M, R, E, hs, hm, h, hc, hE⟩ =>
    ⟨z, ρ, M, _, E, hs, hm, h, fun ds M1 vs H1 h1 m1 r1 e1 => by
      split at h1
      · cases r1 with
        | cons x y =>
          cases y with
          | cons y y2 =>
            cases x; cases y; cases y2
            exact ⟨_, _, rfl, h1.1, hc _ _ _ _ h1.2 m1 e1 itOk_rng⟩
      · exact h1.elim, hE⟩

/-! ### for, while -/
def forW (p : Pat) (body : DTS) (De : DEnds) : List D → Sl → MS → Prop
  | [], ρ, M => De.nx ρ M
  | d :: ds, ρ, M => patW p d ρ (fun ρ1 M1 => body { De with nx := forW p body De ds, ct := forW p body De ds, bk := De.nx } ρ1 M1) M
def dFor (w : DTI) (p : Pat) (body : DTS) : DTS := fun De ρ M => w ρ (fun items M1 => forW p body De items ρ M1) De.ex M
theorem drop_step {α : Type} (items : List α) (i : Nat) : items.drop i = match items[i]? with | some d => d :: items.drop (i + 1) | none => [] := by
  cases q : items[i]? with
  | none => exact List.drop_eq_nil_of_le (List.getElem?_eq_none_iff.mp q)
  | some d =>
    obtain ⟨hl, e⟩ := List.getElem?_eq_some_iff.mp q
    rw [← e]
    exact List.drop_eq_getElem_cons hl
/-- the loop by its items -/
theorem for_core {z : Hd} {ρ : Sl} {σ : St} {H1 : Hp} {M1 : MS} {J : It} {items : List D} {De : Ends} {Dd : DEnds} (ok : ItOk ⟨X.K, z⟩ J items H1 M1) (hs : RelS ⟨X.K, z⟩ H1 M1 σ ρ) (m1 : RelM ⟨X.K, z⟩ H1 M1)
    (h1 : forW p t Dd items ρ M1) (L : LS ⟨X.K, z⟩ W De Dd H1 M1) : ∃ Wv : Nat → Nat → St → Hp → Prop, (∃ m, Wv 0 m σ H1) ∧ ∀ i m σ H, Wv i m σ H →
      (J.stop i H ∧ De.nx σ H) ∨ (J.go i H ∧ ∃ N : St → Hp → Prop, (∀ σ' H', N σ' H' → ∃ m', m' < m ∧ Wv (i + 1) m' σ' H') ∧ ∀ x H', J.yld i H x H' → liftG X.K p x σ H' fun σ2 H2 => liftS X.K W t { De with nx := N, ct := N, bk := De.nx } σ2 H2) := by
  refine ⟨fun i m σ' H' => m = items.length - i ∧ i ≤ items.length ∧ ∃ ρ' M', RelS ⟨X.K, z⟩ H' M' σ' ρ' ∧ RelM ⟨X.K, z⟩ H' M' ∧ Ext ⟨X.K, z⟩ H1 M1 H' M' ∧ forW p t Dd (items.drop i) ρ' M',
    ⟨items.length, by simp, Nat.zero_le _, ρ, M1, hs, m1, Ext.refl, by rw [List.drop_zero]; exact h1⟩, ?_⟩
  rintro i m σ' H' ⟨rfl, hi, ρ', M', s', m', e', f⟩
  by_cases hlt : i < items.length
  · have q : items[i]? = some items[i] := List.getElem?_eq_getElem hlt
    rw [drop_step items i, q] at f
    refine .inr ⟨ok.go _ i H' M' (HidLe.refl _) hlt m' e', fun σ2 H2 => ∃ ρ2 M2, RelS ⟨X.K, z⟩ H2 M2 σ2 ρ2 ∧ RelM ⟨X.K, z⟩ H2 M2 ∧ Ext ⟨X.K, z⟩ H1 M1 H2 M2 ∧ forW p t Dd (items.drop (i + 1)) ρ2 M2,
      fun σ2 H2 ⟨ρ2, M2, a, b, c, d⟩ => ⟨items.length - (i + 1), by omega, rfl, hlt, ρ2, M2, a, b, c, d⟩, fun x H'' y => ?_⟩
    obtain ⟨d, hd, rd, mm, ee⟩ := ok.yld _ i x H' M' H'' (HidLe.refl _) hlt m' e' y
    rw [q] at hd
    cases hd
    refine ⟨z, _, ρ', M', _, rd, s'.ext ee, mm, f, fun ρ3 σ3 q3 s3 _ => ⟨z, ρ3, M', _, s3, mm, q3, ?_⟩⟩
    have e3 := e'.trans ee
    have L3 := L.ext e3
    exact ⟨fun a b c d p1 p2 p3 p4 => ⟨a, b, p3, p2, e3.trans p4, p1⟩, L3.rt, L3.nx, fun a b c d p1 p2 p3 p4 => ⟨a, b, p3, p2, e3.trans p4, p1⟩, L3.ex⟩
  · have e : i = items.length := by omega
    subst e
    rw [List.drop_length] at f
    exact .inl ⟨ok.stop _ H' M' (HidLe.refl _) m' e', L.nx ρ' M' σ' H' f m' s' e'⟩
theorem ds_for (hp : PassesOwn (model X.prog X.w) X.A X.env X.xe) (hc : X.calm = true) (hi : DI X W tg it w) (hg : DG X tg p) (hb : DSs X W bs t) (hs : ∀ x, foldedSetIterable it X.env x = pure x := by intro _; rfl) :
    DS X W (.For tg it bs [] pos) (dFor w p t) :=
  impS (ps_for hp hc hi hg hb hs) fun De σ H ⟨z, ρ, M, Dd, hs, hm, h, L⟩ =>
    ⟨z, ρ, M, _, _, hs, hm, h, fun items M1 H1 J h1 m1 e1 ok => for_core ok (hs.ext e1) m1 h1 (L.ext e1), L.ex⟩
/-- over a list of the store at the i-th slot: it is locked meanwhile -/
def lockE (a : Addr) (ds : List D) (De : DEnds) : DEnds where
  nx := fun ρ M => De.nx ρ (um M a (.lst ds))
  rt := fun d M => De.rt d (um M a (.lst ds))
  bk := fun ρ M => De.bk ρ (um M a (.lst ds))
  ct := fun ρ M => De.ct ρ (um M a (.lst ds))
  ex := fun x ρ M => De.ex x ρ (um M a (.lst ds))
def dm (M : MS) (a : Addr) : MS := fun b => if b = a then none else M b
theorem dm_same {M : MS} {a : Addr} : dm M a a = none := if_pos rfl
theorem dm_ne {M : MS} {a b : Addr} (h : b ≠ a) : dm M a b = M b := if_neg h
theorem um_dm {M : MS} {a : Addr} {o : MO} (h : M a = some o) : um (dm M a) a o = M := by
  funext b
  by_cases e : b = a
  · subst e; rw [um_same, h]
  · rw [um_ne e, dm_ne e]
theorem dm_um {M : MS} {a : Addr} {o : MO} : dm (um M a o) a = dm M a := by
  funext b
  by_cases e : b = a
  · subst e; rw [dm_same, dm_same]
  · rw [dm_ne e, dm_ne e, um_ne e]
/-- hidden: the list at Da holds vs -/
def zz (z : Hd) (Da : Addr) (vs : List V) : Hd := fun a => if a = Da then some vs else z a
theorem zz_same {z : Hd} {Da : Addr} {vs : List V} : zz z Da vs Da = some vs := if_pos rfl
theorem zz_ne {z : Hd} {Da a : Addr} {vs : List V} (h : a ≠ Da) : zz z Da vs a = z a := if_neg h
section
variable {F : PySem.W.Frag} {z : Hd} {H H' : Hp} {M M' : MS} {a : Addr} {vs : List V} {ds : List D}
theorem lock_in (m : RelM ⟨F, z⟩ H M) (ea : M a = some (.lst ds)) (eh : H a = some (.lst vs)) : ExtX ⟨F, z⟩ H M ⟨F, zz z a vs⟩ H (dm M a) ∧ RelM ⟨F, zz z a vs⟩ H (dm M a) := by
  have f : FoExt ⟨F, z⟩ H M ⟨F, zz z a vs⟩ H (dm M a) := fun p o _ s => by
    have ne : p ≠ a := fun q => by
      have n := s.1.1
      rw [q, ea] at n; cases n
    exact ⟨⟨(dm_ne ne).trans s.1.1, (zz_ne ne).trans s.1.2⟩, s.2⟩
  have e : ExtX ⟨F, z⟩ H M ⟨F, zz z a vs⟩ H (dm M a) := by
    exact ExtX.of (fun p xs s => s) f fun p xs s => s
  refine ⟨e, fun b mo q => ?_, fun b ws q => ?_, m.tab.mono f⟩
  · have ne : b ≠ a := fun q2 => by rw [q2, dm_same] at q; cases q
    rw [dm_ne ne] at q
    exact (m.at' b mo q).extX e rfl
  · by_cases hb : b = a
    · subst hb
      rw [show (⟨F, zz z b vs⟩ : ZK).hid b = some vs from zz_same] at q
      cases q
      exact ⟨dm_same, eh⟩
    · obtain ⟨q1, q2⟩ := m.hid b ws ((zz_ne hb).symm.trans q)
      exact ⟨(dm_ne hb).trans q1, q2⟩
theorem lock_out (hz : z a = none) (m : RelM ⟨F, zz z a vs⟩ H' M') (r : RelA ⟨F, zz z a vs⟩ H' M' vs ds) : ExtX ⟨F, zz z a vs⟩ H' M' ⟨F, z⟩ H' (um M' a (.lst ds)) ∧ RelM ⟨F, z⟩ H' (um M' a (.lst ds)) := by
  have f : FoExt ⟨F, zz z a vs⟩ H' M' ⟨F, z⟩ H' (um M' a (.lst ds)) := fun p o _ s => by
    have ne : p ≠ a := fun q => by
      have n : zz z a vs p = none := s.1.2
      rw [q, zz_same] at n; cases n
    exact ⟨⟨(um_ne ne).trans s.1.1, (zz_ne ne).symm.trans s.1.2⟩, s.2⟩
  have e : ExtX ⟨F, zz z a vs⟩ H' M' ⟨F, z⟩ H' (um M' a (.lst ds)) := by
    exact ExtX.of (fun p xs s => s) f fun p xs s => s
  refine ⟨e, fun b mo q => ?_, fun b ws q => ?_, m.tab.mono f⟩
  · by_cases hb : b = a
    · subst hb
      rw [um_same] at q
      cases q
      exact ⟨vs, (m.hid b vs zz_same).2, e.all r⟩
    · rw [um_ne hb] at q
      exact (m.at' b mo q).extX e rfl
  · have hb : b ≠ a := fun q2 => by
      rw [q2] at q
      rw [show (⟨F, z⟩ : ZK).hid a = none from hz] at q; cases q
    obtain ⟨q1, q2⟩ := m.hid b ws ((zz_ne hb).trans q)
    exact ⟨(um_ne hb).trans q1, q2⟩
theorem relX_ext {K K' : ZK} {cls : Value} {d : Option Addr} {x : Ex} (e : ExtX K H M K' H M') (hK : K'.K = K.K) (hn : ∀ dx gs, H dx = some (.xd gs) → M dx = none → M' dx = none) (r : RelX K H M cls d x) : RelX K' H M' cls d x := by
  obtain ⟨h, dx, gs, h1, h2, h0, h3⟩ := r
  exact ⟨by rw [hK]; exact h, dx, gs, h1, h2, hn dx gs h2 h0, e.keys h3⟩
end
theorem LS.lock {z : Hd} {De : Ends} {Dd : DEnds} {H : Hp} {M : MS} {a : Addr} {vs : List V} {ds : List D} (L : LS ⟨X.K, z⟩ W De Dd H M) (hz : z a = none) (m : RelM ⟨X.K, z⟩ H M) (ea : M a = some (.lst ds)) (eh : H a = some (.lst vs)) (ra : RelA ⟨X.K, z⟩ H M vs ds) :
    LS ⟨X.K, zz z a vs⟩ W De (lockE a ds Dd) H (dm M a) := by
  obtain ⟨e0, m0⟩ := lock_in m ea eh
  have back : ∀ {H' : Hp} {M' : MS}, RelM ⟨X.K, zz z a vs⟩ H' M' → Ext ⟨X.K, zz z a vs⟩ H (dm M a) H' M' → ExtX ⟨X.K, zz z a vs⟩ H' M' ⟨X.K, z⟩ H' (um M' a (.lst ds)) ∧ RelM ⟨X.K, z⟩ H' (um M' a (.lst ds)) ∧ Ext ⟨X.K, z⟩ H M H' (um M' a (.lst ds)) := fun m' e' => by
    obtain ⟨x, m2⟩ := lock_out hz m' (e'.all (e0.all ra))
    exact ⟨x, m2, ExtX.trans e0 (ExtX.trans e' x)⟩
  refine ⟨fun ρ' M' σ' H' q m' s' e' => ?_, fun d M' v H' q m' r' e' => ?_, fun ρ' M' σ' H' q m' s' e' => ?_, fun ρ' M' σ' H' q m' s' e' => ?_, fun x ρ' M' cls d σ' H' q m' s' r' e' => ?_⟩
  · obtain ⟨x, m2, e2⟩ := back m' e'
    exact L.nx _ _ _ _ q m2 (s'.extX x) e2
  · obtain ⟨x, m2, e2⟩ := back m' e'
    exact L.rt _ _ _ _ q m2 (x _ _ r') e2
  · obtain ⟨x, m2, e2⟩ := back m' e'
    exact L.bk _ _ _ _ q m2 (s'.extX x) e2
  · obtain ⟨x, m2, e2⟩ := back m' e'
    exact L.ct _ _ _ _ q m2 (s'.extX x) e2
  · obtain ⟨y, m2, e2⟩ := back m' e'
    exact L.ex _ _ _ _ _ _ _ q m2 (s'.extX y) (relX_ext y rfl (fun dx gs h1 h2 => by
      have ne : dx ≠ a := fun z => by
        have h3 := (m'.hid a vs zz_same).2
        rw [z, h3] at h1
        cases h1
      rw [um_ne ne]; exact h2) r') e2
def dForL (i : Nat) (p : Pat) (body : DTS) : DTS := fun De ρ M => match sl ρ i with
  | some (.ref a) => ∃ ds, M a = some (.lst ds) ∧ forW p body (lockE a ds De) ds ρ (dm M a)
  | _ => False
theorem RelM.hidN {K : ZK} {H : Hp} {M : MS} (m : RelM K H M) {a : Addr} {o : MO} (e : M a = some o) : K.hid a = none := by
  cases q : K.hid a with
  | none => rfl
  | some vs =>
    have z := (m.hid a vs q).1
    rw [e] at z; cases z
theorem ds_forL (i : Nat) {x : Str} {px : Pos} (hp : PassesOwn (model X.prog X.w) X.A X.env X.xe) (hc : X.calm = true) (hg : DG X tg p) (hb : DSs X W bs t) (hN : X.N[i]? = some x := by rfl) (hv : Vis X.env.scope x := by first | exact Or.inl rfl | exact Or.inr (Or.inl rfl) | exact Or.inr (Or.inr rfl))
    (hd : (x == ("__debug__" : Str)) = false := by decide) (hcd : (x == ("__classdict__" : Str)) = false := by decide) (hs : ∀ y, foldedSetIterable (.Name x px) X.env y = pure y := by intro _; rfl) :
    DS X W (.For tg (.Name x px) bs [] pos) (dForL i p t) :=
  impS (ps_for hp hc (pi_list (pe_var hN hv hd hcd)) hg hb hs) fun De σ H ⟨z, ρ, M, Dd, hs, hm, h, L⟩ => by
    unfold dForL at h
    split at h
    · next a q =>
      obtain ⟨ds, ea, f⟩ := h
      obtain ⟨v, e1, r1⟩ := hs.2 i _ (sl_get q)
      cases r1
      obtain ⟨vs, eh, ra⟩ := hm.at' a _ ea
      obtain ⟨e0, m0⟩ := lock_in hm ea eh
      exact ⟨_, e1, a, rfl, ⟨vs, SqL.of eh⟩, for_core (itOk_lock zz_same (e0.all ra)) (hs.extX e0) m0 f (L.lock (hm.hidN ea) hm ea eh ra)⟩
    · exact h.elim
def whileW (tA : DTT) (body : DTS) (De : DEnds) : Nat → Sl → MS → Prop
  | 0, _, _ => False
  | n + 1, ρ, M => tA ρ (fun k M1 => if k = true then body { De with nx := whileW tA body De n, ct := whileW tA body De n, bk := De.nx } ρ M1 else De.nx ρ M1) De.ex M
def dWhile (tA : DTT) (body : DTS) : DTS := fun De ρ M => ∃ n, whileW tA body De n ρ M
theorem ds_while (hp : PassesOwn (model X.prog X.w) X.A X.env X.xe) (hc : DT X W c tA) (hb : DSs X W bs t) : DS X W (.While c bs [] pos) (dWhile tA t) :=
  impS (ps_while hp hc hb) fun De σ H ⟨z, ρ, M, Dd, hs, hm, ⟨n, h⟩, L⟩ => by
    refine ⟨fun n σ' H' => ∃ ρ' M', RelS ⟨X.K, z⟩ H' M' σ' ρ' ∧ RelM ⟨X.K, z⟩ H' M' ∧ Ext ⟨X.K, z⟩ H M H' M' ∧ whileW tA t Dd n ρ' M', ⟨n, ρ, M, hs, hm, Ext.refl, h⟩, ?_⟩
    rintro n σ' H' ⟨ρ', M', s', m', e', f⟩
    cases n with
    | zero => exact (show False from f).elim
    | succ n =>
      refine ⟨z, ρ', M', _, _, s', m', f, fun k M1 H1 h1 m1 e1 => ?_, (L.ext e').ex⟩
      have L1 := L.ext (e'.trans e1)
      cases k with
      | true =>
        refine iteT ⟨fun σ2 H2 => ∃ ρ2 M2, RelS ⟨X.K, z⟩ H2 M2 σ2 ρ2 ∧ RelM ⟨X.K, z⟩ H2 M2 ∧ Ext ⟨X.K, z⟩ H M H2 M2 ∧ whileW tA t Dd n ρ2 M2, fun σ2 H2 q => ⟨n, Nat.lt_succ_self n, q⟩, ?_⟩
        exact ⟨z, ρ', M1, _, s'.ext e1, m1, ofT h1, fun a b c d p1 p2 p3 p4 => ⟨a, b, p3, p2, e'.trans (e1.trans p4), p1⟩, L1.rt, L1.nx, fun a b c d p1 p2 p3 p4 => ⟨a, b, p3, p2, e'.trans (e1.trans p4), p1⟩, L1.ex⟩
      | false => exact iteF (L1.nx _ _ _ _ (ofF h1) m1 (s'.ext e1) Ext.refl)
end
end L2.DL
/-! DLe: comprehensions -/
namespace L2.DL
open PySem PySem.Spec PyProof.Rows
variable [Tbs]

def noX : XP := fun _ _ _ => False
def lcW (p : Pat) (tt : DTT) (te : DTE) (vs : List Nat) (ρ : Sl) (R : List D → MS → Prop) : List D → List D → MS → Prop
  | [], acc, M => R acc M
  | d :: ds, acc, M => patW p d (wipeD ρ vs) (fun ρ1 M1 => tt ρ1 (fun b M2 => if b = true then te ρ1 (fun y M3 => acc.length < sizeLine ∧ lcW p tt te vs ρ R ds (acc ++ [y]) M3) noX M2 else lcW p tt te vs ρ R ds acc M2) noX M1) M
def dLc (w : DTI) (p : Pat) (tt : DTT) (te : DTE) (vs : List Nat) : DTE := fun ρ R E M => w ρ (fun items M1 => lcW p tt te vs ρ (fun acc M2 => R (.lst acc) M2) items [] M1) E M
def dYes : DTT := fun _ R _ M => R true M
abbrev DTs (X : Cx) (W : WX) (ifs : List Expr) (t : DTT) : Prop := PTs X ifs (liftT X.K W t)
abbrev W0 : WX := fun _ _ _ _ => False
section
variable {F : PySem.W.Frag} {z : Hd} {H : Hp} {M : MS} {Da : Addr} {vs us : List V}
theorem hid_new (m : RelM ⟨F, z⟩ H M) (h : H Da = none) : ExtX ⟨F, z⟩ H M ⟨F, zz z Da vs⟩ (upd H Da (.lst vs)) M ∧ RelM ⟨F, zz z Da vs⟩ (upd H Da (.lst vs)) M := by
  have f : FoExt ⟨F, z⟩ H M ⟨F, zz z Da vs⟩ (upd H Da (.lst vs)) M := fun p o _ s => by
    have ne := ne_of_none s.2 h
    exact ⟨⟨s.1.1, (zz_ne ne).trans s.1.2⟩, (upd_ne ne).trans s.2⟩
  have e : ExtX ⟨F, z⟩ H M ⟨F, zz z Da vs⟩ (upd H Da (.lst vs)) M := ExtX.of (fun p xs s => sqT_upd (K := ⟨F, z⟩) s (.inl h)) f fun p xs s => sc_upd (K := ⟨F, z⟩) s (.inl h)
  refine ⟨e, fun a mo q => ?_, fun a ws q => ?_, m.tab.mono f⟩
  · obtain ⟨u, q2, _⟩ := (m.at' a mo q).some
    exact (m.at' a mo q).extX e (upd_ne (ne_of_none q2 h))
  · by_cases ha : a = Da
    · subst ha
      rw [show (⟨F, zz z a vs⟩ : ZK).hid a = some vs from zz_same] at q
      cases q
      exact ⟨m.free h, upd_same⟩
    · have q' : z a = some ws := (zz_ne ha).symm.trans q
      obtain ⟨q1, q2⟩ := m.hid a ws q'
      exact ⟨q1, (upd_ne ha).trans q2⟩
theorem hid_more (m : RelM ⟨F, zz z Da us⟩ H M) : ExtX ⟨F, zz z Da us⟩ H M ⟨F, zz z Da vs⟩ (upd H Da (.lst vs)) M ∧ RelM ⟨F, zz z Da vs⟩ (upd H Da (.lst vs)) M := by
  obtain ⟨n1, n2⟩ := m.hid Da us zz_same
  have w : H Da = none ∨ ∃ u, H Da = some u ∧ ∀ ys, u ≠ .tup ys ∧ ∀ ob, u ≠ .frz ob (.tup ys) := .inr ⟨_, n2, fun ys => ⟨fun e => (nomatch e), fun ob e => (nomatch e)⟩⟩
  have f : FoExt ⟨F, zz z Da us⟩ H M ⟨F, zz z Da vs⟩ (upd H Da (.lst vs)) M := fun p o _ s => by
    have ne : p ≠ Da := fun q => by
      have s2 : zz z Da us p = none := s.1.2
      rw [q, zz_same] at s2; cases s2
    exact ⟨⟨s.1.1, (zz_ne ne).trans ((zz_ne ne).symm.trans s.1.2)⟩, (upd_ne ne).trans s.2⟩
  have e : ExtX ⟨F, zz z Da us⟩ H M ⟨F, zz z Da vs⟩ (upd H Da (.lst vs)) M := ExtX.of (fun p xs s => sqT_upd (K := ⟨F, z⟩) s w) f fun p xs s => sc_upd (K := ⟨F, z⟩) s (.inr ⟨_, n2, fun ys ob e => nomatch e⟩)
  refine ⟨e, fun a mo q => ?_, fun a ws q => ?_, m.tab.mono f⟩
  · have ne : a ≠ Da := fun q2 => by rw [q2, n1] at q; cases q
    exact (m.at' a mo q).extX e (upd_ne ne)
  · by_cases ha : a = Da
    · subst ha
      rw [show (⟨F, zz z a vs⟩ : ZK).hid a = some vs from zz_same] at q
      cases q
      exact ⟨n1, upd_same⟩
    · have q' : zz z Da us a = some ws := (zz_ne ha).trans ((zz_ne ha).symm.trans q)
      obtain ⟨q1, q2⟩ := m.hid a ws q'
      exact ⟨q1, (upd_ne ha).trans q2⟩
theorem hid_drop (hz : z Da = none) (m : RelM ⟨F, zz z Da us⟩ H M) : ExtX ⟨F, zz z Da us⟩ H M ⟨F, z⟩ H M ∧ RelM ⟨F, z⟩ H M := by
  have f : FoExt ⟨F, zz z Da us⟩ H M ⟨F, z⟩ H M := fun p o _ s => by
    have ne : p ≠ Da := fun q => by
      have s2 : zz z Da us p = none := s.1.2
      rw [q, zz_same] at s2; cases s2
    exact ⟨⟨s.1.1, (zz_ne ne).symm.trans s.1.2⟩, s.2⟩
  have e : ExtX ⟨F, zz z Da us⟩ H M ⟨F, z⟩ H M := ExtX.of (fun p xs s => s) f fun p xs s => s
  refine ⟨e, fun a mo q => (m.at' a mo q).extX e rfl, fun a ws q => ?_, m.tab.mono f⟩
  have ne : a ≠ Da := fun q2 => by
    rw [q2] at q
    rw [show (⟨F, z⟩ : ZK).hid Da = none from hz] at q; cases q
  exact m.hid a ws ((zz_ne ne).trans q)
end
section
variable {X : Cx} {W : WX} {elt tg iter : Expr} {ifs : List Expr} {scope : Scope} {own : List (Str × Nat)} {pos : Pos} {w : DTI} {p : Pat} {tt : DTT} {te : DTE}
theorem dts_nil {X : Cx} : DTs X W [] dYes := ⟨fun pins s σ H Q I ⟨z, ρ, M, R, E, hs, hm, h, hc, hE⟩ => pts_nil.run pins s σ H Q I (hc _ _ _ h hm Ext.refl)⟩
theorem dts_one {X : Cx} {c : Expr} {t : DTT} (h : DT X W c t) : DTs X W [c] t := pts_one h
/-- what the uses share: the reading of the loop -/
theorem lc_core' {σ : St} {H1 : Hp} {z : Hd} {ρ : Sl} {M1 : MS} {J : It} {items : List D} {R : List D → MS → Prop} {Q : VK} (ok : ItOk ⟨X.K, z⟩ J items H1 M1) (hs : RelS ⟨X.K, z⟩ H1 M1 σ ρ) (m1 : RelM ⟨X.K, z⟩ H1 M1) (h1 : lcW p tt te (own.map (·.2)) ρ R items [] M1)
    (hp : ∀ i ∈ p.ns, i ∈ own.map (·.2)) (hc : ∀ acc M' v H', R acc M' → RelM ⟨X.K, z⟩ H' M' → Rel ⟨X.K, z⟩ H' M' v (.lst acc) → Ext ⟨X.K, z⟩ H1 M1 H' M' → Q v H') :
    ∀ D, H1 D = none → ∃ Wv : Nat → Nat → Hp → Prop, (∃ m, Wv 0 m (upd H1 D (.lst []))) ∧ ∀ i m H, Wv i m H →
      (J.stop i H ∧ Q (.ref D) H) ∨ (J.go i H ∧ ∃ Nx : Hp → Prop, (∀ H', Nx H' → ∃ m', m' < m ∧ Wv (i + 1) m' H') ∧ ∀ x H', J.yld i H x H' → liftG X.K p x (L2.wipe σ (own.map (·.2))) H' fun σ2 H2 => L2.wipe σ2 (own.map (·.2)) = L2.wipe σ (own.map (·.2)) ∧
        liftT X.K W0 tt σ2 H2 fun b H3 => if b = true then lift X.K W0 te σ2 H3 fun y H4 => ∃ acc, H4 D = some (.lst acc) ∧ acc.length < sizeLine ∧ Nx (upd H4 D (.lst (acc ++ [y]))) else Nx H3) := by
  intro Da hD
  have hz : z Da = none := m1.freeH hD
  obtain ⟨x0, n0⟩ := hid_new (vs := []) m1 hD
  have grow : ∀ {vs : List V}, HidLe ⟨X.K, z⟩ ⟨X.K, zz z Da vs⟩ := fun {vs} => ⟨rfl, fun a ws q => by
    have ne : a ≠ Da := fun q2 => by
      rw [q2] at q
      rw [show (⟨X.K, z⟩ : ZK).hid Da = none from hz] at q; cases q
    exact (zz_ne ne).trans q⟩
  refine ⟨fun i m H' => m = items.length - i ∧ i ≤ items.length ∧ ∃ acc accV M', RelM ⟨X.K, zz z Da accV⟩ H' M' ∧ RelA ⟨X.K, zz z Da accV⟩ H' M' accV acc ∧ ExtX ⟨X.K, z⟩ H1 M1 ⟨X.K, zz z Da accV⟩ H' M' ∧
      lcW p tt te (own.map (·.2)) ρ R (items.drop i) acc M', ⟨items.length, by simp, Nat.zero_le _, [], [], M1, n0, .nil, x0, by rw [List.drop_zero]; exact h1⟩, ?_⟩
  rintro i m H' ⟨rfl, hi, acc, accV, M', m', ra, e', f⟩
  by_cases hlt : i < items.length
  · have q : items[i]? = some items[i] := List.getElem?_eq_getElem hlt
    rw [drop_step items i, q] at f
    refine .inr ⟨ok.go ⟨X.K, zz z Da accV⟩ i H' M' grow hlt m' e', fun H2 => ∃ acc2 accV2 M2, RelM ⟨X.K, zz z Da accV2⟩ H2 M2 ∧ RelA ⟨X.K, zz z Da accV2⟩ H2 M2 accV2 acc2 ∧ ExtX ⟨X.K, z⟩ H1 M1 ⟨X.K, zz z Da accV2⟩ H2 M2 ∧
        lcW p tt te (own.map (·.2)) ρ R (items.drop (i + 1)) acc2 M2, fun H2 q2 => ⟨items.length - (i + 1), by omega, rfl, hlt, q2⟩, fun x H'' y => ?_⟩
    obtain ⟨d, hd, rd, mm, ee⟩ := ok.yld ⟨X.K, zz z Da accV⟩ i x H' M' H'' grow hlt m' e' y
    rw [q] at hd
    cases hd
    have s1 : RelS ⟨X.K, zz z Da accV⟩ H'' M' (L2.wipe σ (own.map (·.2))) (wipeD ρ (own.map (·.2))) := (hs.extX (ExtX.trans e' ee)).wipe _
    refine ⟨zz z Da accV, _, _, M', _, rd, s1, mm, f, fun ρ3 σ3 q3 s3 off => ⟨off.wipe hp, zz z Da accV, ρ3, M', _, _, s3, mm, q3, fun b M4 H4 h4 m4 e4 => ?_, fun _ _ _ _ _ _ _ ff => ff.elim⟩⟩
    cases b with
    | false => exact iteF ⟨acc, accV, M4, m4, (ee.trans e4).all ra, ExtX.trans e' (ExtX.trans ee e4), ofF h4⟩
    | true =>
      refine iteT ⟨zz z Da accV, ρ3, M4, _, _, s3.ext e4, m4, ofT h4, fun yv M5 vy H5 h5 m5 r5 e5 => ?_, fun _ _ _ _ _ _ _ ff => ff.elim⟩
      have ra5 := (ee.trans (e4.trans e5)).all ra
      obtain ⟨x6, m6⟩ := hid_more (vs := accV ++ [vy]) m5
      exact ⟨accV, (m5.hid Da accV zz_same).2, by rw [ra.length]; exact h5.1, acc ++ [yv], accV ++ [vy], M5, m6, (x6.all ra5).append (.cons (x6 _ _ r5) .nil), ExtX.trans e' (ExtX.trans ee (ExtX.trans e4 (ExtX.trans e5 x6))), h5.2⟩
  · have e : i = items.length := by omega
    subst e
    rw [List.drop_length] at f
    obtain ⟨x6, m6⟩ := hid_drop hz m'
    have hh := m'.hid Da accV zz_same
    exact .inl ⟨ok.stop ⟨X.K, zz z Da accV⟩ H' M' grow m' e', hc acc M' (.ref Da) H' f m6 (.lst ⟨⟨hh.1, hz⟩, hh.2⟩ (x6.all ra)) (ExtX.trans e' x6)⟩
theorem lc_read {σ : St} {H : Hp} {z : Hd} {ρ : Sl} {M : MS} {R : List D → MS → Prop} {E : XP} {Q : VK} (hs : RelS ⟨X.K, z⟩ H M σ ρ) (hm : RelM ⟨X.K, z⟩ H M) (h : w ρ (fun items M1 => lcW p tt te (own.map (·.2)) ρ R items [] M1) E M)
    (hp : ∀ i ∈ p.ns, i ∈ own.map (·.2))
    (hc : ∀ acc M' v H', R acc M' → RelM ⟨X.K, z⟩ H' M' → Rel ⟨X.K, z⟩ H' M' v (.lst acc) → Ext ⟨X.K, z⟩ H M H' M' → Q v H') (hE : XOk ⟨X.K, z⟩ H M W E) :
    tLc (liftI X.K W w) (liftG X.K p) (liftT X.K W0 tt) (lift X.K W0 te) (own.map (·.2)) σ H Q :=
  ⟨z, ρ, M, _, E, hs, hm, h, fun items M1 H1 J h1 m1 e1 ok => lc_core' ok (hs.ext e1) m1 h1 hp fun acc M' v H' a b c d => hc acc M' v H' a b c (e1.trans d), hE⟩
/-- over a list of the store at the i-th slot -/
def dLcL (i : Nat) (p : Pat) (tt : DTT) (te : DTE) (vs : List Nat) : DTE := fun ρ R _ M => match sl ρ i with
  | some (.ref a) => ∃ ds, M a = some (.lst ds) ∧ lcW p tt te vs ρ (fun acc M2 => R (.lst acc) (um M2 a (.lst ds))) ds [] (dm M a)
  | _ => False
theorem lc_readL {j : Nat} {σ : St} {H : Hp} {z : Hd} {ρ : Sl} {M : MS} {R : PD} {Q : VK} (hs : RelS ⟨X.K, z⟩ H M σ ρ) (hm : RelM ⟨X.K, z⟩ H M) (h : dLcL j p tt te (own.map (·.2)) ρ R noX M)
    (hp : ∀ i ∈ p.ns, i ∈ own.map (·.2)) (hc : Cont ⟨X.K, z⟩ H M R Q) :
    tLc (iList X.K (tVar j)) (liftG X.K p) (liftT X.K W0 tt) (lift X.K W0 te) (own.map (·.2)) σ H Q := by
  unfold dLcL at h
  split at h
  · next a q =>
    obtain ⟨ds, ea, f⟩ := h
    obtain ⟨v, e1, r1⟩ := hs.2 j _ (sl_get q)
    cases r1
    obtain ⟨vs, eh, ra⟩ := hm.at' a _ ea
    obtain ⟨e0, m0⟩ := lock_in hm ea eh
    refine ⟨_, e1, a, rfl, ⟨vs, SqL.of eh⟩, lc_core' (itOk_lock zz_same (e0.all ra)) (hs.extX e0) m0 f hp fun acc M' v' H' q' m' r' e' => ?_⟩
    obtain ⟨x, m2⟩ := lock_out (hm.hidN ea) m' (e'.all (e0.all ra))
    exact hc _ _ _ _ q' m2 (x _ _ r') (ExtX.trans e0 (ExtX.trans e' x))
  · exact h.elim
theorem de_lc (hc : X.calm = true) (hN : X.N.Nodup) (hi : DI X W tg iter w) (ok : BlkOk X.N X.env.scope scope own) (hp : ∀ i ∈ p.ns, i ∈ own.map (·.2))
    (hg : ∀ (s : Shared) (H : Hp) (C : Addr) (cl : List (Str × Addr)) (fp : List Addr), DG (X.blk s H scope (compEnvC scope cl C X.env) fp) tg p) (ht : ∀ (s : Shared) (H : Hp) (C : Addr) (cl : List (Str × Addr)) (fp : List Addr), DTs (X.blk s H scope (compEnvC scope cl C X.env) fp) W0 ifs tt)
    (he : ∀ (s : Shared) (H : Hp) (C : Addr) (cl : List (Str × Addr)) (fp : List Addr), DE (X.blk s H scope (compEnvC scope cl C X.env) fp) W0 elt te) (hs : ∀ x, foldedSetIterable iter X.env x = pure x := by intro _; rfl) :
    DE X W (.ListComp elt [⟨tg, iter, ifs, 0⟩] scope pos) (dLc w p tt te (own.map (·.2))) :=
  imp (pe_lc hc hN hi ok hg ht he hs) fun σ H Q ⟨z, ρ, M, R, E, hs, hm, h, hc, hE⟩ => lc_read hs hm h hp (fun acc M' v H' a b c d => hc _ _ _ _ a b c d) hE
/-- y = [..] -/
theorem ds_setLc (i : Nat) {y : Str} {py spos : Pos} (hc : X.calm = true) (hN : X.N.Nodup) (hi : DI X W tg iter w) (ok : BlkOk X.N X.env.scope scope own) (hp : ∀ i ∈ p.ns, i ∈ own.map (·.2))
    (hg : ∀ (s : Shared) (H : Hp) (C : Addr) (cl : List (Str × Addr)) (fp : List Addr), DG (X.blk s H scope (compEnvC scope cl C X.env) fp) tg p) (ht : ∀ (s : Shared) (H : Hp) (C : Addr) (cl : List (Str × Addr)) (fp : List Addr), DTs (X.blk s H scope (compEnvC scope cl C X.env) fp) W0 ifs tt)
    (he : ∀ (s : Shared) (H : Hp) (C : Addr) (cl : List (Str × Addr)) (fp : List Addr), DE (X.blk s H scope (compEnvC scope cl C X.env) fp) W0 elt te) (hs : ∀ x, foldedSetIterable iter X.env x = pure x := by intro _; rfl)
    (hy : X.N[i]? = some y := by rfl) (hyl : X.env.scope.names.lookup y = some .local := by rfl)
    (hsw : swapsWith (.ListComp elt [⟨tg, iter, ifs, 0⟩] scope pos) (some (.Name y py)) spos.line X.env = pure true := by exact sw_true rfl rfl rfl (by decide +kernel)) :
    DS X W (.Assign [.Name y py] (.ListComp elt [⟨tg, iter, ifs, 0⟩] scope pos) spos) (dSet i (dLc w p tt te (own.map (·.2)))) :=
  impS (ps_setLc hc hN hy hyl hsw hi ok hg ht he hs) fun De σ H ⟨z, ρ, M, Dd, hs, hm, h, L⟩ =>
    lc_read (R := fun acc M2 => Dd.nx (ρ.set i (some (.lst acc))) M2) hs hm h hp (fun acc M' v H' a b c d => L.nx _ _ _ _ a b ((hs.ext d).set i c) d) L.ex
theorem de_lcL (j : Nat) {x : Str} {px : Pos} (hc : X.calm = true) (hN : X.N.Nodup) (ok : BlkOk X.N X.env.scope scope own) (hp : ∀ i ∈ p.ns, i ∈ own.map (·.2))
    (hg : ∀ (s : Shared) (H : Hp) (C : Addr) (cl : List (Str × Addr)) (fp : List Addr), DG (X.blk s H scope (compEnvC scope cl C X.env) fp) tg p) (ht : ∀ (s : Shared) (H : Hp) (C : Addr) (cl : List (Str × Addr)) (fp : List Addr), DTs (X.blk s H scope (compEnvC scope cl C X.env) fp) W0 ifs tt)
    (he : ∀ (s : Shared) (H : Hp) (C : Addr) (cl : List (Str × Addr)) (fp : List Addr), DE (X.blk s H scope (compEnvC scope cl C X.env) fp) W0 elt te)
    (hx : X.N[j]? = some x := by rfl) (hv : Vis X.env.scope x := by first | exact Or.inl rfl | exact Or.inr (Or.inl rfl) | exact Or.inr (Or.inr rfl)) (hd : (x == ("__debug__" : Str)) = false := by decide) (hcd : (x == ("__classdict__" : Str)) = false := by decide)
    (hs : ∀ y, foldedSetIterable (.Name x px) X.env y = pure y := by intro _; rfl) :
    DE X W (.ListComp elt [⟨tg, .Name x px, ifs, 0⟩] scope pos) (dLcL j p tt te (own.map (·.2))) :=
  imp (pe_lc hc hN (pi_list (pe_var hx hv hd hcd)) ok hg ht he hs) fun σ H Q ⟨z, ρ, M, R, E, hs, hm, h, hc, hE⟩ => lc_readL hs hm h hp hc
theorem ds_setLcL (j i : Nat) {x y : Str} {px py spos : Pos} (hc : X.calm = true) (hN : X.N.Nodup) (ok : BlkOk X.N X.env.scope scope own) (hp : ∀ i ∈ p.ns, i ∈ own.map (·.2))
    (hg : ∀ (s : Shared) (H : Hp) (C : Addr) (cl : List (Str × Addr)) (fp : List Addr), DG (X.blk s H scope (compEnvC scope cl C X.env) fp) tg p) (ht : ∀ (s : Shared) (H : Hp) (C : Addr) (cl : List (Str × Addr)) (fp : List Addr), DTs (X.blk s H scope (compEnvC scope cl C X.env) fp) W0 ifs tt)
    (he : ∀ (s : Shared) (H : Hp) (C : Addr) (cl : List (Str × Addr)) (fp : List Addr), DE (X.blk s H scope (compEnvC scope cl C X.env) fp) W0 elt te)
    (hx : X.N[j]? = some x := by rfl) (hv : Vis X.env.scope x := by first | exact Or.inl rfl | exact Or.inr (Or.inl rfl) | exact Or.inr (Or.inr rfl)) (hd : (x == ("__debug__" : Str)) = false := by decide) (hcd : (x == ("__classdict__" : Str)) = false := by decide)
    (hs : ∀ y, foldedSetIterable (.Name x px) X.env y = pure y := by intro _; rfl)
    (hy : X.N[i]? = some y := by rfl) (hyl : X.env.scope.names.lookup y = some .local := by rfl)
    (hsw : swapsWith (.ListComp elt [⟨tg, .Name x px, ifs, 0⟩] scope pos) (some (.Name y py)) spos.line X.env = pure true := by exact sw_true rfl rfl rfl (by decide +kernel)) :
    DS X W (.Assign [.Name y py] (.ListComp elt [⟨tg, .Name x px, ifs, 0⟩] scope pos) spos) (dSet i (dLcL j p tt te (own.map (·.2)))) :=
  impS (ps_setLc hc hN hy hyl hsw (pi_list (pe_var hx hv hd hcd)) ok hg ht he hs) fun De σ H ⟨z, ρ, M, Dd, hs, hm, h, L⟩ =>
    lc_readL (R := fun d M2 => Dd.nx (ρ.set i (some d)) M2) hs hm h hp (fun acc M' v H' a b c d => L.nx _ _ _ _ a b ((hs.ext d).set i c) d)
end
end L2.DL
/-! DLf: built-ins, methods -/
namespace PySem.AutoSeq1
theorem extTupAny (l : Addr) (its : Array Value) (n : Nat) (b : Addr) (its2 : Array Value) (n2 : Nat) (dd : Option Addr) (ss : Array (Option Value))
    (q0 : ¬(!its.isEmpty && Builtin.List.listTooLong (its.size + its2.size)) = true) (q1 : its.size ≤ sizeLine) (q2 : its.size + its2.size ≤ sizeLine + 1) :
    Meets (Builtin.«list.extend» ⟨[.ref l, .ref b], []⟩) (fun _ R s => s.heap.get? l = some { cls := .type "list", dict := none, data := .seq its n, slots := #[] } ∧
      s.heap.get? b = some { cls := .type "tuple", dict := dd, data := .seq its2 n2, slots := ss } ∧ R (.ok (.ret Value.none)) { s with heap := s.heap.update l (Obj.mapSeq fun x => x ++ its2), toks := s.toks }) :=
  .of_wp fun prog w A R st hst => by
    obtain ⟨hp, g, d, tk, os⟩ := st
    obtain ⟨hl, hb, h⟩ := hst
    have g1 := idx_int
    have g2 := sub_tuple_tuple
    have g3 := sub_list_list
    have g4 := sub_tuple_list
    have g5 := sub_list_tuple
    have hfit : (its ++ its2).size ≤ sizeLine + 1 := by
      rw [Array.size_append]
      exact q2
    wp_walk using (wpAny_updateSeq hl rfl (hz := q1) (_hz' := hfit)), wpAny_loadPart' hl, wpAny_loadPart' hb
    exact ⟨_, rfl, h⟩
end PySem.AutoSeq1
namespace L2.DL
open PySem PySem.Spec PyProof.Rows
variable [Tbs]
section
variable {X : Cx} {W : WX} {a b c e o : Expr} {es : List Expr} {te to : DTE} {t : DTA} {pos apos cpos : Pos}
def CallD (X : Cx) (fv : Value) (f : List D → PD → MS → Prop) : Prop :=
  ∃ r, CallR X fv r ∧ ∀ z H M xs vs R Q, RelM ⟨X.K, z⟩ H M → RelA ⟨X.K, z⟩ H M vs xs → f xs R M → Cont ⟨X.K, z⟩ H M R Q → r vs H Q
def dCB (f : List D → PD → MS → Prop) (t : DTA) : DTE := fun ρ R E M => t ρ (fun xs M1 => f xs R M1) E M
theorem de_callB {id : String} {x : Str} {p : Pos} {f : List D → PD → MS → Prop} (o : CallD X (.builtin id) f) (hm : X.mg x = none) (hv : bootBuiltins x = some (.builtin id)) (ha : DA X W (e :: es) t) (hg : Gl X x := by rfl) (hn : x ≠ "__name__" := by decide) (hdb : (x == ("__debug__" : Str)) = false := by decide)
    (he : starEach (e :: es) X.env = (false, eval e X.env) :: starEach es X.env := by rfl) (hpl : (backTo pos (starEach es X.env)).any (·.1) = false := by rfl) : DE X W (.Call (.Name x p) (e :: es) [] pos) (dCB f t) := by
  obtain ⟨r, ho, ad⟩ := o
  exact imp (pe_callB ho hg hm hv ha hn hdb he hpl) fun σ H Q ⟨z, ρ, M, R, E, hs, hm, h, hc, hE⟩ =>
    ⟨z, ρ, M, _, E, hs, hm, h, fun xs M1 vs H1 h1 m1 r1 e1 => ad _ _ _ _ _ _ _ m1 r1 h1 (hc.ext e1), hE⟩
theorem de_callT {T : String} {x : Str} {p : Pos} {f : List D → PD → MS → Prop} (o : CallD X (.type T) f) (hm : X.mg x = none) (hv : bootBuiltins x = some (.type T)) (ha : DA X W (e :: es) t) (hg : Gl X x := by rfl) (hn : x ≠ "__name__" := by decide) (hdb : (x == ("__debug__" : Str)) = false := by decide)
    (he : starEach (e :: es) X.env = (false, eval e X.env) :: starEach es X.env := by rfl) (hpl : (backTo pos (starEach es X.env)).any (·.1) = false := by rfl) : DE X W (.Call (.Name x p) (e :: es) [] pos) (dCB f t) := by
  obtain ⟨r, ho, ad⟩ := o
  exact imp (pe_callTy ho hg hm hv ha hn hdb he hpl) fun σ H Q ⟨z, ρ, M, R, E, hs, hm, h, hc, hE⟩ =>
    ⟨z, ρ, M, _, E, hs, hm, h, fun xs M1 vs H1 h1 m1 r1 e1 => ad _ _ _ _ _ _ _ m1 r1 h1 (hc.ext e1), hE⟩
theorem CallD.or {fv : Value} {f g : List D → PD → MS → Prop} (h : CallD X fv f) (k : CallD X fv g) : CallD X fv (fun xs R M => f xs R M ∨ g xs R M) := by
  obtain ⟨r, h1, h2⟩ := h
  obtain ⟨r', k1, k2⟩ := k
  exact ⟨_, h1.or k1, fun z H M xs vs R Q m ra q hc => q.elim (fun q => .inl (h2 _ _ _ _ _ _ _ m ra q hc)) fun q => .inr (k2 _ _ _ _ _ _ _ m ra q hc)⟩

/-- len -/
def lenD : List D → PD → MS → Prop
  | [.tup ds], R, M => R (.int ds.length) M
  | [.lst ds], R, M => R (.int ds.length) M
  | [.scr ds], R, M => R (.int ds.length) M
  | [.str x], R, M => x.length ≤ sizeLine ∧ R (.int x.length) M
  | [.ref a], R, M => ∃ ds, M a = some (.lst ds) ∧ R (.int ds.length) M
  | _, _, _ => False
theorem c_len : CallD X (.builtin "len") lenD := by
  refine ⟨_, call_len_seq.or call_len_str, fun z H M xs vs R Q m ra h hc => ?_⟩
  unfold lenD at h
  split at h
  · cases ra with
    | cons x y =>
      cases y
      cases x with
      | tup s r => exact .inl ⟨_, _, rfl, .inr s, by rw [r.length]; exact hc.here h m (.int _)⟩
  · cases ra with
    | cons x y =>
      cases y
      cases x with
      | lst s r => exact .inl ⟨_, _, rfl, .inl s.sq, by rw [r.length]; exact hc.here h m (.int _)⟩
  · cases ra with
    | cons x y =>
      cases y
      cases x with
      | scr s => exact .inl ⟨_, _, rfl, .inl s.sq, by rw [List.length_map]; exact hc.here h m (.int _)⟩
  · cases ra with
    | cons x y =>
      cases y; cases x
      exact .inr ⟨_, rfl, h.1, hc.here h.2 m (.int _)⟩
  · cases ra with
    | cons x y =>
      cases y; cases x
      obtain ⟨ds, ea, q⟩ := h
      obtain ⟨ws, e1, r⟩ := m.at' _ _ ea
      exact .inl ⟨_, _, rfl, .inl (SqL.of e1), by rw [r.length]; exact hc.here q m (.int _)⟩
  · exact h.elim
def absD : List D → PD → MS → Prop
  | [.int i], R, M => R (.int (if i < 0 then -i else i)) M
  | _, _, _ => False
theorem c_abs : CallD X (.builtin "abs") absD := by
  refine ⟨_, call_abs, fun z H M xs vs R Q m ra h hc => ?_⟩
  unfold absD at h
  split at h
  · cases ra with
    | cons x y =>
      cases y; cases x
      exact ⟨_, rfl, hc.here h m (.int _)⟩
  · exact h.elim
/-- min, max: of two ints; of a list of ints -/
def lsInts (M : MS) (d : D) (ns : List Int) : Prop := Ls M d (ns.map D.int)
theorem lsInts_at {z : Hd} {H : Hp} {M : MS} {d : D} {ns : List Int} {v : V} (m : RelM ⟨X.K, z⟩ H M) (s : lsInts M d ns) (r : Rel ⟨X.K, z⟩ H M v d) : ∃ p, v = .ref p ∧ SqL X.K H p (ns.map V.int) := by
  obtain ⟨p, vs, e, h, ra⟩ := ls_at m s r
  exact ⟨p, e, by rw [← ra.ints]; exact SqL.of h⟩
def minD : List D → PD → MS → Prop
  | [.int i, .int j], R, M => R (.int (if j < i then j else i)) M
  | [d], R, M => ∃ ns, lsInts M d ns ∧ 0 < ns.length ∧ ∀ k, k ∈ ns → (∀ y, y ∈ ns → k ≤ y) → R (.int k) M
  | _, _, _ => False
def maxD : List D → PD → MS → Prop
  | [.int i, .int j], R, M => R (.int (if j > i then j else i)) M
  | [d], R, M => ∃ ns, lsInts M d ns ∧ 0 < ns.length ∧ ∀ k, k ∈ ns → (∀ y, y ∈ ns → y ≤ k) → R (.int k) M
  | _, _, _ => False
theorem c_min (hc : X.calm = true) : CallD X (.builtin "min") minD := by
  refine ⟨_, (call_min2 hc).or (cr_min hc), fun z H M xs vs R Q m ra h hc => ?_⟩
  unfold minD at h
  split at h
  · cases ra with
    | cons x y =>
      cases y with
      | cons y y2 =>
        cases x; cases y; cases y2
        exact .inl ⟨_, _, rfl, hc.here h m (.int _)⟩
  · cases ra with
    | cons x y =>
      cases y
      obtain ⟨ns, s, h0, q⟩ := h
      obtain ⟨p, rfl, s2⟩ := lsInts_at m s x
      exact .inr ⟨_, ns, rfl, s2, h0, fun k hk hl => hc.here (q k hk hl) m (.int _)⟩
  · exact h.elim
theorem c_max (hc : X.calm = true) : CallD X (.builtin "max") maxD := by
  refine ⟨_, (call_max2 hc).or (cr_max hc), fun z H M xs vs R Q m ra h hc => ?_⟩
  unfold maxD at h
  split at h
  · cases ra with
    | cons x y =>
      cases y with
      | cons y y2 =>
        cases x; cases y; cases y2
        exact .inl ⟨_, _, rfl, hc.here h m (.int _)⟩
  · cases ra with
    | cons x y =>
      cases y
      obtain ⟨ns, s, h0, q⟩ := h
      obtain ⟨p, rfl, s2⟩ := lsInts_at m s x
      exact .inr ⟨_, ns, rfl, s2, h0, fun k hk hl => hc.here (q k hk hl) m (.int _)⟩
  · exact h.elim
def sumD : List D → PD → MS → Prop
  | [d], R, M => ∃ ns, lsInts M d ns ∧ R (.int ns.sum) M
  | _, _, _ => False
theorem c_sum (hc : X.calm = true) : CallD X (.builtin "sum") sumD := by
  refine ⟨_, cr_sum hc, fun z H M xs vs R Q m ra h hc => ?_⟩
  unfold sumD at h
  split at h
  · cases ra with
    | cons x y =>
      cases y
      obtain ⟨ns, s, q⟩ := h
      obtain ⟨p, rfl, s2⟩ := lsInts_at m s x
      exact ⟨_, ns, rfl, s2, hc.here q m (.int _)⟩
  · exact h.elim
def lsBls (M : MS) (d : D) (bs : List Bool) : Prop := Ls M d (bs.map D.bl)
theorem lsBls_at {z : Hd} {H : Hp} {M : MS} {d : D} {ns : List Bool} {v : V} (m : RelM ⟨X.K, z⟩ H M) (s : lsBls M d ns) (r : Rel ⟨X.K, z⟩ H M v d) : ∃ p, v = .ref p ∧ SqL X.K H p (ns.map V.bl) := by
  obtain ⟨p, vs, e, h, ra⟩ := ls_at m s r
  exact ⟨p, e, by rw [← ra.bls]; exact SqL.of h⟩
def allD : List D → PD → MS → Prop
  | [d], R, M => ∃ bs, lsBls M d bs ∧ R (.bl (bs.all id)) M
  | _, _, _ => False
def anyD : List D → PD → MS → Prop
  | [d], R, M => ∃ bs, lsBls M d bs ∧ R (.bl (bs.any id)) M
  | _, _, _ => False
theorem c_all (hc : X.calm = true) : CallD X (.builtin "all") allD := by
  refine ⟨_, cr_all hc, fun z H M xs vs R Q m ra h hc => ?_⟩
  unfold allD at h
  split at h
  · cases ra with
    | cons x y =>
      cases y
      obtain ⟨ns, s, q⟩ := h
      obtain ⟨p, rfl, s2⟩ := lsBls_at m s x
      exact ⟨_, ns, rfl, s2, hc.here q m (.bl _)⟩
  · exact h.elim
theorem c_any (hc : X.calm = true) : CallD X (.builtin "any") anyD := by
  refine ⟨_, cr_any hc, fun z H M xs vs R Q m ra h hc => ?_⟩
  unfold anyD at h
  split at h
  · cases ra with
    | cons x y =>
      cases y
      obtain ⟨ns, s, q⟩ := h
      obtain ⟨p, rfl, s2⟩ := lsBls_at m s x
      exact ⟨_, ns, rfl, s2, hc.here q m (.bl _)⟩
  · exact h.elim
def intD : List D → PD → MS → Prop
  | [.int i], R, M => R (.int i) M
  | [.bl k], R, M => R (.int (if k then 1 else 0)) M
  | _, _, _ => False
theorem c_int : CallD X (.type "int") intD := by
  refine ⟨_, call_int1, fun z H M xs vs R Q m ra h hc => ?_⟩
  unfold intD at h
  split at h
  · cases ra with
    | cons x y =>
      cases y; cases x
      exact .inl ⟨_, rfl, hc.here h m (.int _)⟩
  · cases ra with
    | cons x y =>
      cases y; cases x
      exact .inr ⟨_, rfl, hc.here h m (.int _)⟩
  · exact h.elim
/-- tuple(..), list(..) of a list or a tuple -/
def Sq (M : MS) : D → List D → Prop
  | .tup ds, e => e = ds
  | d, e => Ls M d e
theorem Sq.ls {M : MS} {d : D} {ds : List D} (h : Sq M d ds) (n : ∀ es, d ≠ .tup es) : Ls M d ds := by
  cases d with
  | tup es => exact absurd rfl (n es)
  | _ => exact h
def tupD : List D → PD → MS → Prop
  | [d], R, M => ∃ ds, Sq M d ds ∧ R (.tup ds) M
  | _, _, _ => False
def lstD : List D → PD → MS → Prop
  | [d], R, M => ∃ ds, Sq M d ds ∧ R (.lst ds) M
  | _, _, _ => False
def lstND : List D → PD → MS → Prop
  | [d], R, M => ∃ ds, Sq M d ds ∧ ∀ p, M p = none → R (.ref p) (um M p (.lst ds))
  | _, _, _ => False
theorem sq_at {K : ZK} {H : Hp} {M : MS} {d : D} {ds : List D} {v : V} (m : RelM K H M) (s : Sq M d ds) (r : Rel K H M v d) : ∃ p vs, v = .ref p ∧ (SqL K.K H p vs ∨ (SqT K.K H p vs ∧ d = .tup ds)) ∧ RelA K H M vs ds := by
  cases d with
  | tup es =>
    have s' : ds = es := s
    subst s'
    cases r with
    | tup a b => exact ⟨_, _, rfl, .inr ⟨a, rfl⟩, b⟩
  | _ =>
    obtain ⟨p, vs, e, h, ra⟩ := ls_at (ds := ds) m (s.ls fun _ z => (nomatch z)) r
    exact ⟨p, vs, e, .inl (SqL.of h), ra⟩
theorem c_tup : CallD X (.type "tuple") tupD := by
  refine ⟨_, call_tuple_of, fun z H M xs vs R Q m ra h hc => ?_⟩
  unfold tupD at h
  split at h
  · cases ra with
    | cons x y =>
      cases y
      obtain ⟨ds, s, q⟩ := h
      obtain ⟨p, ws, rfl, sq, r⟩ := sq_at m s x
      refine ⟨p, ws, rfl, ?_⟩
      rcases sq with sq | ⟨sq, e⟩
      · exact .inl ⟨sq, fun l hl => hc _ _ _ _ q (relM_new m hl) (.tup (SqT.of upd_same) ((ext_new m hl).all r)) (ext_new m hl)⟩
      · subst e
        exact .inr ⟨sq, hc.here q m x⟩
  · exact h.elim
theorem c_lst : CallD X (.type "list") lstD := by
  refine ⟨_, call_list_of, fun z H M xs vs R Q m ra h hc => ?_⟩
  unfold lstD at h
  split at h
  · cases ra with
    | cons x y =>
      cases y
      obtain ⟨ds, s, q⟩ := h
      obtain ⟨p, ws, rfl, sq, r⟩ := sq_at m s x
      exact ⟨p, ws, rfl, sq.elim .inl fun k => .inr k.1, fun l hl => hc _ _ _ _ q (relM_new m hl) (.lst (fz_new m hl) ((ext_new m hl).all r)) (ext_new m hl)⟩
  · exact h.elim
theorem c_lstN : CallD X (.type "list") lstND := by
  refine ⟨_, call_list_of, fun z H M xs vs R Q m ra h hc => ?_⟩
  unfold lstND at h
  split at h
  · cases ra with
    | cons x y =>
      cases y
      obtain ⟨ds, s, q⟩ := h
      obtain ⟨p, ws, rfl, sq, r⟩ := sq_at m s x
      exact ⟨p, ws, rfl, sq.elim .inl fun k => .inr k.1, fun l hl => hc _ _ _ _ (q l (m.free hl)) (alloc_lst m hl r) (.ref l) (ext_alloc m hl)⟩
  · exact h.elim
/-- repr -/
def reprOk (p : PyData) : Prop := p.showable = true ∧ p.canLay0 = true ∧ p.shown.length ≤ sizeLine ∧ p.depth ≤ 60
def reprD : List D → PD → MS → Prop
  | [d], R, M => ∃ e, Sees M d e ∧ isP e = true ∧ reprOk (pd e) ∧ R (.str (pd e).shown) M
  | _, _, _ => False
theorem c_repr (hG : X.A.guards = some []) (hu : X.A.units + 64 < cLine) : CallD X (.builtin "repr") reprD := by
  refine ⟨fun vs H Q => ∃ v p, vs = [v] ∧ Dp X.K H v p ∧ reprOk p ∧ Q (.str p.shown) H, ?_, fun z H M xs vs R Q m ra h hc => ?_⟩
  · intro pins s σ H xs us Q I r h
    obtain ⟨v, p, rfl, hd, ⟨h1, h2, h3, h4⟩, q⟩ := h
    obtain ⟨u, rfl, ru⟩ := vals1 r
    obtain ⟨as, hr⟩ := Dp.reads I p v u hd ru
    have nd := PyData.hasDict_of_canLay p h2
    cases hd with
    | non => cases ru; exact PySem.P.repr_of_none ⟨.str _, H, I.tok _, ⟨_, rfl⟩, q⟩
    | bl b =>
      cases ru
      refine PySem.P.repr_of_bool ⟨.str _, H, I.tok _, ⟨_, rfl⟩, ?_⟩
      cases b <;> exact q
    | int i =>
      obtain ⟨t, rfl⟩ := ru
      exact PySem.P.repr_of_int (by simpa [PyData.showable] using h1) ⟨.str _, H, I.tok _, ⟨_, rfl⟩, q⟩
    | str x =>
      obtain ⟨t, rfl⟩ := ru
      exact PySem.P.repr_of_str ⟨.str _, H, I.tok _, ⟨_, rfl⟩, q⟩ (by simpa [PyData.shown] using h3)
    | lst sq ra =>
      cases ru
      exact repr_of_reads' hr h1 (PyData.noDict_hsm nd) hG (by omega) (fun _ _ e => e) (fun h' u tk k => ⟨.str _, H, I.kept k, ⟨_, rfl⟩, q⟩) h3
    | tup sq ra =>
      cases ru
      exact repr_of_reads' hr h1 (PyData.noDict_hsm nd) hG (by omega) (fun _ _ e => e) (fun h' u tk k => ⟨.str _, H, I.kept k, ⟨_, rfl⟩, q⟩) h3
  · unfold reprD at h
    split at h
    · cases ra with
      | cons x y =>
        cases y
        obtain ⟨e, s, ip, ok, q⟩ := h
        exact ⟨_, _, rfl, dp_sees m s ip x, ok, hc.here q m (.str _)⟩
    · exact h.elim

/-! ### methods of lists of the store -/
def MtD (X : Cx) (id : String) (f : D → List D → PD → MS → Prop) : Prop :=
  ∃ r, MtR X id r ∧ ∀ z H M x xs v vs R Q, RelM ⟨X.K, z⟩ H M → Rel ⟨X.K, z⟩ H M v x → RelA ⟨X.K, z⟩ H M vs xs → f x xs R M → Cont ⟨X.K, z⟩ H M R Q → r v vs H Q
def isL (M : MS) : D → Prop
  | .ref a => ∃ ds, M a = some (.lst ds)
  | .lst _ => True
  | _ => False
def dMt (f : D → List D → PD → MS → Prop) (to : DTE) (t : DTA) : DTE := fun ρ R E M => to ρ (fun x M1 => isL M1 x ∧ t ρ (fun xs M2 => f x xs R M2) E M1) E M
theorem isL_at {K : ZK} {H : Hp} {M : MS} {d : D} {v : V} (m : RelM K H M) (s : isL M d) (r : Rel K H M v d) : tyV K.K "list" v H := by
  cases d with
  | ref a =>
    cases r
    obtain ⟨ds, e⟩ := s
    obtain ⟨vs, e2, _⟩ := m.at' _ _ e
    exact .inl ⟨rfl, _, SqL.of e2⟩
  | lst ds =>
    cases r with
    | lst a b => exact .inl ⟨rfl, _, a.sq⟩
  | _ => exact (show False from s).elim
theorem de_mtL {name : Str} {id : String} {f : D → List D → PD → MS → Prop} (slot : Slot "list" name id) (hty : typeOf (.builtin id) = pure (.type "method_descriptor")) (hm : MtD X id f) (ho : DE X W o to) (ha : DA X W (e :: es) t)
    (hbase : attributeBase o name X.env (eval o X.env) = eval o X.env := by rfl)
    (hfew : ((backTo cpos (starEach (e :: es) X.env)).all (fun x => !x.1) && (backToKw cpos (keywordEach [] X.env)).all (fun x => x.1.isSome)
      && decide ((e :: es).length + ([] : List Keyword).length + (if ([] : List Keyword).isEmpty then 0 else 1) < 30)) = true := by rfl)
    (hline : (apos.endLine == cpos.line) = true := by rfl) (hs : starEach (e :: es) X.env = (false, eval e X.env) :: starEach es X.env := by rfl) (hplain : (backTo cpos (starEach es X.env)).any (·.1) = false := by rfl) :
    DE X W (.Call (.Attribute o name apos) (e :: es) [] cpos) (dMt f to t) := by
  obtain ⟨r, hr, ad⟩ := hm
  exact imp (pe_bm PySem.F.plainAttrs_list slot hty hr ho ha hbase hfew hline hs hplain) fun σ H Q ⟨z, ρ, M, R, E, hs, hm, h, hc, hE⟩ =>
    ⟨z, ρ, M, _, E, hs, hm, h, fun x M1 v H1 h1 m1 r1 e1 => ⟨isL_at m1 h1.1 r1, z, ρ, M1, _, E, hs.ext e1, m1, h1.2, fun xs M2 vs H2 h2 m2 r2 e2 => ad _ _ _ _ _ _ _ _ _ m2 (e2 _ _ r1) r2 h2 (hc.ext (e1.trans e2)), hE.ext e1⟩, hE⟩
def appD : D → List D → PD → MS → Prop
  | .ref a, [y], R, M => ∃ ds, M a = some (.lst ds) ∧ ds.length < sizeLine ∧ R .non (um M a (.lst (ds ++ [y])))
  | _, _, _, _ => False
theorem write_lst {K : ZK} {H : Hp} {M : MS} {a : Addr} {ds es : List D} {vs : List V} (m : RelM K H M) (ea : M a = some (.lst es)) (r : RelA K H M vs ds) : RelM K (upd H a (.lst vs)) (um M a (.lst ds)) :=
  relM_write m ea ⟨vs, upd_same, (ext_write m ea).all r⟩
theorem m_append : MtD X "list.append" appD := by
  refine ⟨_, mt_append, fun z H M x xs v vs R Q m rx ra h hc => ?_⟩
  unfold appD at h
  split at h
  · cases rx
    cases ra with
    | cons r1 r2 =>
      cases r2
      obtain ⟨ds, ea, hz, q⟩ := h
      obtain ⟨ws, e1, r⟩ := m.at' _ _ ea
      exact ⟨_, ws, _, rfl, rfl, e1, by rw [r.length]; exact hz, hc _ _ _ _ q (write_lst m ea (r.append (.cons r1 .nil))) .non (ext_write m ea)⟩
  · exact h.elim
theorem mt_extendT : MtR X "list.extend" (fun x vs H Q => ∃ l b xs zs, x = .ref l ∧ vs = [.ref b] ∧ H l = some (.lst xs) ∧ SqT X.K H b zs ∧ xs.length + zs.length ≤ sizeLine ∧ Q .non (upd H l (.lst (xs ++ zs)))) := by
  intro pins s σ H x vs v us Q I rx rv h
  obtain ⟨l, b, xs, zs, rfl, rfl, hH, hB, hz, q⟩ := h
  cases rx
  obtain ⟨u, rfl, ru⟩ := rv.one
  cases ru
  obtain ⟨zl, its, n, r, hl, e⟩ := I.lstM hH
  obtain ⟨its2, r2, ⟨ob, e2, c2, n2, d2⟩, z2⟩ := I.tuple hB
  have l1 := r.length
  have l2 := r2.length
  obtain ⟨oc, od, odata, osl⟩ := ob
  cases c2
  cases d2
  have fit : its.toArray.size + its2.toArray.size ≤ sizeLine := by simp only [List.size_toArray]; omega
  have short : ¬ (!its.toArray.isEmpty && Builtin.List.listTooLong (its.toArray.size + its2.toArray.size)) = true := by
    rw [notLongL fit, Bool.and_false]
    exact Bool.false_ne_true
  refine call_meets F.slot_list_extend ⟨_, e, rfl⟩ F.entry_list_extend (F.args_list_extend_2 _ _) (AutoSeq1.extTupAny l its.toArray n b its2.toArray n2 od osl short (by simp only [List.size_toArray]; omega) (by omega)) ⟨e, e2, ?_⟩
  exact ⟨.non, _, I.lset (its' := its ++ its2) hH e (by simp) (r.append r2) (by rw [List.length_append]; omega), rfl, q⟩
def extD : D → List D → PD → MS → Prop
  | .ref a, [y], R, M => ∃ ds es, M a = some (.lst ds) ∧ Sq M y es ∧ ds.length + es.length ≤ sizeLine ∧ R .non (um M a (.lst (ds ++ es)))
  | _, _, _, _ => False
theorem m_extend : MtD X "list.extend" extD := by
  refine ⟨_, (show MtR X "list.extend" rExtend from mt_extend).or mt_extendT, fun z H M x xs v vs R Q m rx ra h hc => ?_⟩
  cases x with
  | ref a =>
    cases xs with
    | nil => exact (show False from h).elim
    | cons y ys =>
      cases ys with
      | cons _ _ => exact (show False from h).elim
      | nil =>
        cases rx
        cases ra with
        | cons r1 r2 =>
          cases r2
          obtain ⟨ds, es, ea, sq, hz, q⟩ := h
          obtain ⟨ws, e1, r⟩ := m.at' _ _ ea
          obtain ⟨p, us, rfl, sq2, rt⟩ := sq_at m sq r1
          rcases sq2 with sq2 | ⟨sq2, _⟩
          · cases y with
            | tup fs =>
              cases r1 with
              | tup st rt2 =>
                have s' : es = fs := sq
                subst s'
                exact .inr ⟨_, _, ws, _, rfl, rfl, e1, st, by rw [r.length, rt2.length]; exact hz, hc _ _ _ _ q (write_lst m ea (r.append rt2)) .non (ext_write m ea)⟩
            | _ =>
              obtain ⟨p, us, e, h, rt⟩ := ls_at (ds := es) m (sq.ls fun _ z => (nomatch z)) r1
              cases e
              exact .inl ⟨_, _, ws, _, rfl, rfl, e1, h, by rw [r.length, rt.length]; exact hz, hc _ _ _ _ q (write_lst m ea (r.append rt)) .non (ext_write m ea)⟩
          · exact .inr ⟨_, _, ws, _, rfl, rfl, e1, sq2, by rw [r.length, rt.length]; exact hz, hc _ _ _ _ q (write_lst m ea (r.append rt)) .non (ext_write m ea)⟩
  | _ => exact (show False from h).elim
end
end L2.DL
/-! DLg: defs: what they promise, their calls, the law's own end -/
namespace L2.DL
open PySem PySem.Spec PyProof.Rows
variable [Tbs]

abbrev G := List D → PD → (Ex → MS → Prop) → MS → Prop
def spD (F : PySem.W.Frag) (g : G) : Sp := fun vs H Q E => ∃ (z : Hd) (ds : List D) (M : MS) (R : PD) (RE : Ex → MS → Prop), RelA ⟨F, z⟩ H M vs ds ∧ RelM ⟨F, z⟩ H M ∧ g ds R RE M ∧ Cont ⟨F, z⟩ H M R Q ∧
  ∀ x M' cls d H', RE x M' → RelM ⟨F, z⟩ H' M' → RelX ⟨F, z⟩ H' M' cls d x → Ext ⟨F, z⟩ H M H' M' → E cls d H'
/-- as FnOk, where no repr runs around -/
structure FnD (P : Program) (w : World) (F : PySem.W.Frag) (mg : Str → Option Value) (base : Heap) (k : Nat) (f : Addr) (fd : FuncData) (ps : List Str) (g : G) : Prop where
  len : ∀ ds R E M, g ds R E M → ds.length = ps.length
  run : ∀ (A : Around) (outer : List Env) (s : Shared) (H : Hp) (args : Args) (us : List Value) (vs : List V) (Q : VK) (E : XK), Room k A → A.guards = some [] → Env0 P w F mg base A outer s H →
    BindsTo s fd args (ps.zip us) → Vals vs us → spD F g vs H Q E → codeAny (model P w) A (.call (.ref f) args) (CR (L2.CX P w) outer P w H s Q E) s

/-- what is told may be told with less of the store -/
def Wk (M : MS) (d : D) (M' : MS) (d' : D) : Prop := Le M' M ∧ ∀ K H v, RelM K H M → Rel K H M v d → Rel K H M' v d'
theorem Wk.refl (M : MS) (d : D) : Wk M d M d := ⟨Le.refl M, fun _ _ _ _ r => r⟩
theorem Wk.le {M M' : MS} {d : D} (l : Le M' M) : Wk M d M' d := ⟨l, fun _ _ v _ r => Ext.le l v d r⟩
theorem Wk.frz {M M' : MS} {a : Addr} {ds : List D} (l : Le M' M) (ea : M a = some (.lst ds)) (na : M' a = none) : Wk M (.ref a) M' (.lst ds) := by
  refine ⟨l, fun K H v m r => ?_⟩
  cases r
  obtain ⟨vs, e, ra⟩ := m.at' a _ ea
  refine .lst ⟨⟨na, ?_⟩, e⟩ ((Ext.le l).all ra)
  cases q : K.hid a with
  | none => rfl
  | some ws =>
    have z := (m.hid a ws q).1
    rw [ea] at z; cases z
/-- pairs of such -/
theorem Wk.tup2 {M M' : MS} {a b a' b' : D} (h : Wk M a M' a') (k : Wk M b M' b') : Wk M (.tup [a, b]) M' (.tup [a', b']) := by
  refine ⟨h.1, fun K H v m r => ?_⟩
  cases r with
  | tup s ra =>
    cases ra with
    | cons r1 ra =>
      cases ra with
      | cons r2 ra =>
        cases ra
        exact .tup s (.cons (h.2 K H _ m r1) (.cons (k.2 K H _ m r2) .nil))
def Rw (R : PD) (d : D) (M : MS) : Prop := ∃ d' M', Wk M d M' d' ∧ R d' M'
theorem Rw.of {R : PD} {d : D} {M : MS} (h : R d M) : Rw R d M := ⟨d, M, Wk.refl M d, h⟩
theorem Rw.le {R : PD} {d : D} {M M' : MS} (h : R d M') (l : Le M' M) : Rw R d M := ⟨d, M', Wk.le l, h⟩
theorem Rw.frz {R : PD} {a : Addr} {ds : List D} {M M' : MS} (h : R (.lst ds) M') (l : Le M' M) (ea : M a = some (.lst ds)) (na : M' a = none) : Rw R (.ref a) M := ⟨_, M', Wk.frz l ea na, h⟩
def ends (R : PD) (RE : Ex → MS → Prop) : DEnds where
  nx := fun _ M => Rw R .non M
  rt := Rw R
  ex := fun x _ M => ∃ M', Le M' M ∧ RE x M'
theorem relX_le {K : ZK} {H : Hp} {M M' : MS} {cls : Value} {d : Option Addr} {x : Ex} (l : Le M' M) (r : RelX K H M cls d x) : RelX K H M' cls d x := by
  obtain ⟨e, dx, gs, h1, h2, h0, h3⟩ := r
  refine ⟨e, dx, gs, h1, h2, ?_, (Ext.le l).keys h3⟩
  cases q : M' dx with
  | none => rfl
  | some u => rw [l dx u q] at h0; cases h0

section
variable {P : Program} {w : World} {K : PySem.W.Frag} {mg : Str → Option Value} {base : Heap}
abbrev WB (E : XK) : WX := fun cls d _ H => E cls d H
/-- THE RULE for a def: its body read over data -/
theorem FnD.of {x qual : Str} {st : Stmt} {f : Addr} {fd : FuncData} {N ps : List Str} {k : Nat} {g : G} {tb : DTS} (F : L2.Fun K x qual st f fd) (S : FnScope N ps (defScope st)) (len : ∀ ds R E M, g ds R E M → ds.length = ps.length)
    (hb : ∀ (cdv : Value) (A : Around) (outer : List Env) (s : Shared) (H : Hp) (E : XK), Room k (A.deeper (envOfC qual (defScope st) s.heap.objs.size f cdv)) → (A.deeper (envOfC qual (defScope st) s.heap.objs.size f cdv)).guards = some [] →
      DSs (cxOf (L2.CX P w) P w K mg base N qual (defScope st) f cdv A outer s H E) (WB E) (defBody st) tb)
    (hg : ∀ ds R RE M, g ds R RE M → tb (ends R RE) (startD N ds) M) : FnD P w K mg base (k + 1) f fd ps g := by
  obtain ⟨oc, od, kV, doc, pm, an, cdv, ct, osl, rfl, lk, hcd⟩ := F.ex
  refine ⟨len, fun A outer s H args us vs Q E hr hG e0 hbd r hsp => ?_⟩
  obtain ⟨z, ds, M, R, RE, ra, rm, hgg, hcont, hex⟩ := hsp
  have hl : vs.length = ps.length := ra.length.trans (len _ _ _ _ hgg)
  have nl : ds.length ≤ N.length := by
    have z := congrArg List.length S.pre
    rw [List.length_take] at z
    have z2 := len _ _ _ _ hgg
    omega
  have kx : K.In s.heap := e0.mod.kin.keeps fun b o e => (e0.bs b o e).1
  have nolim : s.heap.NoLimit := e0.mod.nolimit.keeps fun b o e => (e0.bs b o e).1
  have kinds : ∀ y ∈ ps.zip us, (defScope st).names.lookup y.1 = some .local ∨ ((defScope st).names.lookup y.1 = some .cell ∧ ((cellsFrom (s.heap.objs.size + 1) (defScope st).names []).lookup y.1).isSome = true) := by
    rintro ⟨n, v⟩ hy
    rcases S.par n (List.of_mem_zip hy).1 with q | q
    · exact .inl q
    · exact .inr ⟨q, PySem.W.cellsFrom_some _ _ _ (.inl q)⟩
  refine codeAny_call_function hr.depth (kx _ _ lk) rfl S.co S.gen rfl (PySem.W.codeRec_of kx hcd) (hbd _ _ _ _ ?_)
  refine wpAny_newFunctionEnv_cells S.kind kinds fun env he s1 xc => ?_
  subst he
  refine ⟨nolim.keeps xc.toInCall.keep, codeAny_func ?_⟩
  have T := hb cdv A outer s H E (hr.deeper _) hG
  have I : Inv (cxOf (L2.CX P w) P w K mg base N qual (defScope st) f cdv A outer s H E) [] (L2.start N vs) H s1 := inv_start S hr.hd e0 hl r xc
  have reading : liftS K (WB E) tb { nx := fun _ H' => Q .non H', rt := Q } (L2.start N vs) H := by
    refine ⟨z, startD N ds, M, ends R RE, relS_start ra nl, rm, hg ds R RE M hgg, ?_, ?_, ?_, ?_, ?_⟩
    · rintro ρ' M' σ' H' ⟨d', M2, wk, q⟩ m s e
      exact hcont d' M2 .non H' q (m.le wk.1) (wk.2 _ H' _ m .non) (e.trans (Ext.le wk.1))
    · rintro d M' v H' ⟨d', M2, wk, q⟩ m r e
      exact hcont d' M2 v H' q (m.le wk.1) (wk.2 _ H' _ m r) (e.trans (Ext.le wk.1))
    · intro _ _ _ _ q
      exact q.elim
    · intro _ _ _ _ q
      exact q.elim
    · rintro x ρ' M' cls d σ' H' ⟨M2, l, q⟩ m s rx e
      exact hex x M2 cls d H' q (m.le l) (relX_le l rx) (e.trans (Ext.le l))
  refine wpAny_mono (T.run [] s1 (L2.start N vs) H _ I reading) (fun fl s' hs => ?_) fun e s' hs => hs
  have fin : ∀ {σ' : St} {H' : Hp} {v : V} {u : Value}, Inv (cxOf (L2.CX P w) P w K mg base N qual (defScope st) f cdv A outer s H E) [] σ' H' s' → RelV v u → Q v H' → CE outer P w H s Q u s' :=
    fun {σ' H' v u} J rv q => ⟨v, H', J.os, J.bare, J.base, J.hok, rv, q⟩
  cases fl with
  | ret u =>
    obtain ⟨v, σ', H', J, rv, q⟩ := hs
    exact fin J rv q
  | next =>
    obtain ⟨σ', H', J, q⟩ := hs
    exact fin (v := .non) (u := .none) J rfl q
  | brk => exact (let ⟨_, _, _, q⟩ := hs; q.elim)
  | cont => exact (let ⟨_, _, _, q⟩ := hs; q.elim)
/-- a weaker promise -/
theorem FnD.imp {f : Addr} {fd : FuncData} {ps : List Str} {k : Nat} {g g' : G} (F : FnD P w K mg base k f fd ps g) (h : ∀ ds R E M, g' ds R E M → g ds R E M) : FnD P w K mg base k f fd ps g' :=
  ⟨fun ds R E M q => F.len ds R E M (h _ _ _ _ q), fun A outer s H args us vs Q E hr hG e0 hb hv ⟨z, ds, M, R, RE, a, b, c, d, e⟩ => F.run A outer s H args us vs Q E hr hG e0 hb hv ⟨z, ds, M, R, RE, a, b, h _ _ _ _ c, d, e⟩⟩
theorem FnD.mono {f : Addr} {fd : FuncData} {ps : List Str} {j k : Nat} {g : G} (F : FnD P w K mg base j f fd ps g) (h : j ≤ k) : FnD P w K mg base k f fd ps g :=
  ⟨F.len, fun A outer s H args us vs Q E hr => F.run A outer s H args us vs Q E (hr.mono h)⟩

/-- a def of the text by its name -/
structure Tx (K : PySem.W.Frag) (mg : Str → Option Value) (x : Str) (st : Stmt) : Prop where
  ex : ∃ f fd, mg x = some (.ref f) ∧ L2.Fun K x x st f fd
/-- a def of the text, with what it promises -/
structure Df (P : Program) (w : World) (K : PySem.W.Frag) (mg : Str → Option Value) (base : Heap) (x : Str) (ps : List Str) (k : Nat) (g : G) : Prop where
  ex : ∃ f fd, mg x = some (.ref f) ∧ PySem.W.keepIn K (.ref f) = true ∧ Binds K fd ps [] ∧ FnD P w K mg base k f fd ps g
theorem Df.of {x : Str} {st : Stmt} {N ps : List Str} {k : Nat} {g : G} {tb : DTS} (T : Tx K mg x st) (S : FnScope N ps (defScope st))
    (bd : ∀ (kV doc pm : Value) (an : Option Addr) (cdv ct : Value) (us : List Value), us.length = ps.length → bindArgs (PySem.W.fnOf x x (defArgs st) (defBody st) (defScope st) .none kV doc pm an cdv ct) ⟨us, []⟩ = pure (ps.zip us))
    (len : ∀ ds R E M, g ds R E M → ds.length = ps.length)
    (hb : ∀ (f : Addr) (cdv : Value) (A : Around) (outer : List Env) (s : Shared) (H : Hp) (E : XK), Room k (A.deeper (envOfC x (defScope st) s.heap.objs.size f cdv)) → (A.deeper (envOfC x (defScope st) s.heap.objs.size f cdv)).guards = some [] →
      DSs (cxOf (L2.CX P w) P w K mg base N x (defScope st) f cdv A outer s H E) (WB E) (defBody st) tb)
    (hg : ∀ ds R RE M, g ds R RE M → tb (ends R RE) (startD N ds) M) : Df P w K mg base x ps (k + 1) g := by
  obtain ⟨f, fd, h1, F⟩ := T.ex
  exact ⟨f, fd, h1, F.kp, F.binds bd, FnD.of F S len (hb f) hg⟩
theorem Df.imp {x : Str} {ps : List Str} {k : Nat} {g g' : G} (D : Df P w K mg base x ps k g) (h : ∀ ds R E M, g' ds R E M → g ds R E M) : Df P w K mg base x ps k g' := by
  obtain ⟨f, fd, h1, h2, h3, F⟩ := D.ex
  exact ⟨f, fd, h1, h2, h3, F.imp h⟩
end
section
variable {X : Cx} {W : WX} {e : Expr} {es : List Expr} {t : DTA} {g : G} {x : Str} {ps : List Str} {k : Nat} {p pos : Pos}
def dCall (g : G) (t : DTA) : DTE := fun ρ R E M => t ρ (fun ds M1 => g ds R (fun x M' => E x ρ M') M1) E M
theorem de_call (dd : Df X.prog X.w X.K X.mg X.base x ps k g) (hr : Room k X.A) (hG : X.A.guards = some []) (tk : Takes X W) (ha : DA X W (e :: es) t) (hg : Gl X x := by rfl)
    (hdb : (x == ("__debug__" : Str)) = false := by decide) (he : starEach (e :: es) X.env = (false, eval e X.env) :: starEach es X.env := by rfl) (hpl : (backTo pos (starEach es X.env)).any (·.1) = false := by rfl) :
    DE X W (.Call (.Name x p) (e :: es) [] pos) (dCall g t) := by
  obtain ⟨f, fd, hm, hk, hb, F⟩ := dd.ex
  refine ⟨fun pins s σ H Q I ⟨z, ρ, M, R, E, hs, hm2, h, hc, hE⟩ => ?_⟩
  refine wpAny_Call_Name_kw (ld_glob I hg hm ?_ hdb)
  refine PySem.W.callWith_K (h₀ := X.base) I.ok.mod.kin hk (thn (ha.run pos pins s σ H (fun vs H1 => spD X.K g vs H1 Q fun cls d H' => W cls d σ H') I
    ⟨z, ρ, M, _, E, hs, hm2, h, fun ds M1 vs H1 h1 m1 r1 e1 => ⟨z, ds, M1, R, _, r1, m1, h1, hc.ext e1, fun x M' cls d H' a b c f => hE x ρ M' cls d σ H' a b (hs.ext (e1.trans f)) c (e1.trans f)⟩, hE⟩) fun us s1 ⟨vs, H1, I1, r, q⟩ => ⟨I1.kIn, ?_⟩) he hpl
  have hl : us.length = ps.length := by
    obtain ⟨z, ds, M1, R1, RE, ra, _, gg, _⟩ := q
    rw [← r.length, ra.length]
    exact F.len _ _ _ _ gg
  have bb := hb s1 us I1.kIn (by rw [List.append_nil]; exact hl)
  rw [List.append_nil] at bb
  refine wpAny_call (codeAny_mono (F.run X.A X.stack s1 H1 ⟨us, []⟩ us vs Q _ hr hG I1.env0 bb r q) fun res s' hq => ?_)
  cases res with
  | error e' => exact passAt tk σ pins H1 s1 e' s' I1 hq
  | ok fl =>
    cases fl with
    | ret u => exact I1.after hq
    | next => exact False.elim hq
    | brk => exact False.elim hq
    | cont => exact False.elim hq
end

/-! ### the law's end -/
/-- the law's promise at the head: of any script it gives True -/
def gLaw (g : G) : Prop := ∀ ns : List Int, ns.length ≤ 63 → g [.scr ns] (fun d _ => d = .bl true) (fun _ _ => False) (fun _ => none)
theorem law_endD {P : Program} {w : World} {K : PySem.W.Frag} {mg mb : Str → Option Value} {k : Nat} {fa a : Addr} {fd : FuncData} {x : Str} {g : G} {s₁ : Shared} {vs : List Value} {ns : List Int}
    (KX : K.In s₁.heap) (hns : s₁.heap.Ns mainGlobals mg) (hb : s₁.heap.Ns builtinsNs mb) (hbb : ∀ x : Str, x ≠ "__name__" → mb x = bootBuiltins x) (hlim : s₁.heap.NoLimit) (hg : s₁.gens = #[])
    (ha : s₁.heap.get? a = some { cls := .type "list", data := .seq vs.toArray }) (hi : IntsAre vs ns) (hl : ns.length ≤ 63) (hr : Room k callerA)
    (F : ∀ base : Heap, K.In base → base.Ns mainGlobals mg → FnD P w K mg base k fa fd [x] g) (hbind : ∀ (s : Shared) (u : Value), BindsTo s fd ⟨[u], []⟩ [(x, u)]) (hgl : gLaw g) (hT : Tbs.T = []) :
    codeAny (model P w) callerA (.call (.ref fa) ⟨[.ref a], []⟩) (fun r s' => r = .ok (.ret (.bool true)) ∧ OldK s₁.heap s'.heap ∧ s'.os = s₁.os ∧ AllBare s'.gens) s₁ := by
  have hl2 : ns.length ≤ sizeLine := Nat.le_trans hl (by decide)
  have rv := vals_ints hi
  have lv := hi.length
  have main : ∀ H : Hp, Only H → Sc K H a (ns.map V.int) → HOk P w H s₁.heap → (∀ b, H b ≠ none → b = a) → (H a ≠ none → K.lookup a = none) →
      codeAny (model P w) callerA (.call (.ref fa) ⟨[.ref a], []⟩) (fun r s' => r = .ok (.ret (.bool true)) ∧ OldK s₁.heap s'.heap ∧ s'.os = s₁.os ∧ AllBare s'.gens) s₁ := by
    intro H hO hS hok hA hK
    have nd : ∀ {b : Addr} {o : Obj} {es : Array DictEntry} {ep : Nat}, s₁.heap.get? b = some o → o.data = .dict es ep → H b = none := by
      intro b o es ep e d
      by_cases q : H b = none
      · exact q
      · have e' := hA b q
        subst e'
        rw [ha] at e
        cases e
        exact (Data.noConfusion d)
    have toB : ∀ {b : Addr} {o : Obj}, s₁.heap.get? b = some o → H b = none → (hidT s₁.heap H).get? b = some o := fun e n => hidT_get e n
    have nsB : ∀ {b : Addr} {m : Str → Option Value}, s₁.heap.Ns b m → (hidT s₁.heap H).Ns b m := fun {b m} ⟨o, es, ep, e, d, r⟩ => ⟨o, es, ep, toB e (nd e d), d, r⟩
    have kB : K.In (hidT s₁.heap H) := by
      intro b o e
      refine toB (KX b o e) ?_
      by_cases q : H b = none
      · exact q
      · have e' := hA b q
        subst e'
        rw [hK q] at e; cases e
    have md : Mod K mg (hidT s₁.heap H) := ⟨kB, nsB hns, ⟨mb, nsB hb, hbb⟩, let ⟨mc, l1, l2⟩ := hlim; ⟨mc, nsB l1, l2⟩⟩
    have ev : Env0 P w K mg (hidT s₁.heap H) callerA [] s₁ H := ⟨rfl, md, fun b o e => of_hidT e, Nat.le_of_eq (hidT_size _ _), trivial, fun b hb => by simp [frs] at hb, hok, .of_eq hg⟩
    have sp : spD K g [.ref a] H (fun v _ => v = .bl true) (fun _ _ _ => False) := by
      refine ⟨fun _ => none, [.scr ns], fun _ => none, _, _, .cons (.scr hS) .nil, ⟨fun b mo e => by simp at e, fun b ws e => by simp at e, fun p hp => by rw [hT] at hp; cases hp⟩, hgl ns hl, ?_, ?_⟩
      · rintro d M' v H' rfl m r e
        cases r
        rfl
      · intro x M' cls d H' f
        exact f.elim
    refine codeAny_mono ((F _ kB (nsB hns)).run callerA [] s₁ H ⟨[.ref a], []⟩ [.ref a] [.ref a] _ _ hr rfl ev (hbind s₁ (.ref a)) (.cons rfl .nil) sp) fun r s' h => ?_
    cases r with
    | error e =>
      obtain ⟨_, _, _, _, _, _, _, _, _, _, _, _, f⟩ := h
      exact f.elim
    | ok fl =>
      cases fl with
      | next => exact h.elim
      | brk => exact h.elim
      | cont => exact h.elim
      | ret u =>
        obtain ⟨v, H', os, bare, un, hok', r', q⟩ := h
        have q' : v = .bl true := q
        subst q'
        obtain rfl : u = Value.bool true := r'
        refine ⟨rfl, OldK.of_keep fun b o e => ?_, os, bare⟩
        by_cases q : H b = none
        · exact un.keep b o e q (by simp [frs]) (by simp)
        · rcases hO b with z | ⟨ob, xs, z⟩
          · exact absurd z q
          · have z2 := un.frzs b ob _ z
            obtain ⟨e1, _⟩ := hok b _ z
            obtain ⟨e2, _⟩ := hok' b _ z2
            rw [e] at e1
            cases e1
            exact e2
  cases hk : K.lookup a with
  | some o =>
    have e := KX a o hk
    rw [ha] at e
    cases e
    exact main (fun _ => none) (fun _ => .inl rfl) (.inr ⟨_, vs.toArray, _, hk, rfl, rfl, rfl, by rw [List.size_toArray, lv]; exact hl2, by simpa using rv⟩) (fun b u z => by simp at z) (fun b z => absurd rfl z) fun z => absurd rfl z
  | none =>
    refine main (fun b => if b = a then some (.frz { cls := .type "list", data := .seq vs.toArray } (.lst (ns.map V.int))) else none) (fun b => ?_) (.inl ⟨{ cls := .type "list", data := .seq vs.toArray }, if_pos rfl⟩) (fun b u z => ?_) (fun b z => ?_) fun _ => hk
    · by_cases hb : b = a
      · exact .inr ⟨_, _, if_pos hb⟩
      · exact .inl (if_neg hb)
    · by_cases hb : b = a
      · subst hb
        have z' := (if_pos rfl).symm.trans z
        cases z'
        exact ⟨ha, by rw [List.length_map]; exact hl2, vs, _, rv, ha⟩
      · have z' := (if_neg hb).symm.trans z
        cases z'
    · by_cases hb : b = a
      · exact hb
      · exact absurd (if_neg hb) z
/-- the goal that the head leaves -/
theorem walkD {l : PySem.W.OpenLaw} {k : Nat} {q : Program} {loose : List Str} {XP : (Str → Option Value) → Heap → Prop} {YP : World → Heap → Prop} {d : DefRec} {K : Params → PySem.W.Frag} {g : G} {x : Str}
    (hn : l.most = some 63) (hdf : d.params.defaults = []) (hr : Room k callerA) (hY : ∀ (w : World) (h : Heap), YP w h → (K w.params).In h)
    (F : ∀ (w : World) (mg : Str → Option Value) (fa : Addr) (h : Heap), (K w.params).In h → h.Ns mainGlobals mg → mg d.name = some (.ref fa) →
      ∃ fd : FuncData, (∀ (s : Shared) (u : Value), BindsTo s fd ⟨[u], []⟩ [(x, u)]) ∧
        ∀ base : Heap, (K w.params).In base → base.Ns mainGlobals mg → FnD l.prog w (K w.params) mg base k fa fd [x] g) (hgl : gLaw g) (hT : Tbs.T = [] := by rfl) :
    PySem.W.WalkO q loose XP YP l.row.toRowW d [] (fun f vs => PySem.call f vs) := by
  refine Att.attach_call hn hdf fun w s₀ s₁ mg mb fa o pm cd doc a vs ns G Y ho hd hcd hmg hobj hints hlen hg => ?_
  obtain ⟨fd, hb, hF⟩ := F w mg fa _ (hY w _ Y) G.T.g hmg
  exact law_endD (hY w _ Y) G.T.g G.T.b G.T.builtins G.T.nolimit hg hobj hints hlen hr hF hb hgl hT
end L2.DL
/-! DLh: small things for the printed parts -/
namespace L2.DL
open PySem PySem.Spec PyProof.Rows
variable [Tbs]
theorem bt_len : bootBuiltins "len" = some (.builtin "len") := by decide +kernel
theorem bt_abs : bootBuiltins "abs" = some (.builtin "abs") := by decide +kernel
theorem bt_min : bootBuiltins "min" = some (.builtin "min") := by decide +kernel
theorem bt_max : bootBuiltins "max" = some (.builtin "max") := by decide +kernel
theorem bt_sum : bootBuiltins "sum" = some (.builtin "sum") := by decide +kernel
theorem bt_all : bootBuiltins "all" = some (.builtin "all") := by decide +kernel
theorem bt_any : bootBuiltins "any" = some (.builtin "any") := by decide +kernel
theorem bt_repr : bootBuiltins "repr" = some (.builtin "repr") := by decide +kernel
theorem bt_int : bootBuiltins "int" = some (.type "int") := by decide +kernel
theorem bt_tuple : bootBuiltins "tuple" = some (.type "tuple") := by decide +kernel
theorem bt_list : bootBuiltins "list" = some (.type "list") := by decide +kernel
mutual
theorem patW_ex : ∀ (p : Pat) (d : D) (ρ : Sl) (k : Sl → MS → Prop) (M : MS), patW p d ρ k M → ∃ ρ', k ρ' M
  | .nm i, d, ρ, k, M, h => ⟨_, h⟩
  | .tp ps, .tup ds, ρ, k, M, h => (patsW_ex ps ds ρ k M h).2
  | .tp ps, .lst ds, ρ, k, M, h => (patsW_ex ps ds ρ k M h).2
  | .tp ps, .non, ρ, k, M, h => (show False from h).elim
  | .tp ps, .bl _, ρ, k, M, h => (show False from h).elim
  | .tp ps, .int _, ρ, k, M, h => (show False from h).elim
  | .tp ps, .str _, ρ, k, M, h => (show False from h).elim
  | .tp ps, .ty _, ρ, k, M, h => (show False from h).elim
  | .tp ps, .ref _, ρ, k, M, h => (show False from h).elim
  | .tp ps, .scr _, ρ, k, M, h => (show False from h).elim
  | .tp ps, .fn _, ρ, k, M, h => (show False from h).elim
  | .tp ps, .clo _ _ _, ρ, k, M, h => (show False from h).elim
theorem patsW_ex : ∀ (ps : List Pat) (ds : List D) (ρ : Sl) (k : Sl → MS → Prop) (M : MS), patsW ps ds ρ k M → ds.length = ps.length ∧ ∃ ρ', k ρ' M
  | [], [], ρ, k, M, h => ⟨rfl, _, h⟩
  | [], _ :: _, ρ, k, M, h => (show False from h).elim
  | _ :: _, [], ρ, k, M, h => (show False from h).elim
  | p :: ps, d :: ds, ρ, k, M, h => by
    obtain ⟨ρ1, h1⟩ := patW_ex p d ρ _ M h
    obtain ⟨e, h2⟩ := patsW_ex ps ds ρ1 k M h1
    exact ⟨by rw [List.length_cons, List.length_cons, e], h2⟩
end
theorem pl_of (n : Nat) {ps : List Pat} (h : ps.length = n := by rfl) : ∀ ds ρ k M, patsW ps ds ρ k M → ds.length = n := fun ds ρ k M q => (patsW_ex ps ds ρ k M q).1.trans h
/-- what a def's proof shows -/
abbrev Hg (g : G) (tb : DTS) (N : List Str) : Prop := ∀ ds R RE M, g ds R RE M → tb (ends R RE) (startD N ds) M
end L2.DL
/-! DLi: what the readings come to, row by row (for simp) -/
namespace L2.DL
open PySem PySem.Spec PyProof.Rows
section
variable {De : DEnds} {ρ : Sl} {M : MS} {R : PD} {E : XP} {t u : DTS} {te ta tb tc to ti : DTE} {tA tB : DTT} {tl th : DTA} {lo hi : DTO} {i j : Nat} {d x y : D} {ds es : List D} {RB : Bool → MS → Prop} {w : DTI} {p : Pat}
theorem v_seq : dSeq t u De ρ M = t { De with nx := u De } ρ M := (rfl)
theorem v_next : dNext De ρ M = De.nx ρ M := (rfl)
theorem v_never : dNever De ρ M = False := (rfl)
theorem v_set : dSet i te De ρ M = te ρ (fun d M1 => De.nx (ρ.set i (some d)) M1) De.ex M := (rfl)
theorem v_ret : dRet te De ρ M = te ρ De.rt De.ex M := (rfl)
theorem v_retN : dRetN De ρ M = De.rt .non M := (rfl)
theorem v_ifS : dIfS tA t u De ρ M = tA ρ (fun k M1 => if k = true then t De ρ M1 else u De ρ M1) De.ex M := (rfl)
theorem v_expr : dExpr te De ρ M = te ρ (fun _ M1 => De.nx ρ M1) De.ex M := (rfl)
theorem v_asg : dAsg p te De ρ M = te ρ (fun d M1 => patW p d ρ De.nx M1) De.ex M := (rfl)
theorem v_par : dPar i j tl De ρ M = tl ρ (fun ds M1 => match ds with | [x, y] => De.nx ((ρ.set i (some x)).set j (some y)) M1 | _ => False) De.ex M := (rfl)
theorem v_sub : dSub te to ti De ρ M = te ρ (fun d M1 => to ρ (fun o M2 => ti ρ (fun i M3 => setLD o i d (fun M4 => De.nx ρ M4) M3) De.ex M2) De.ex M1) De.ex M := (rfl)
theorem v_for : dFor w p t De ρ M = w ρ (fun items M1 => forW p t De items ρ M1) De.ex M := (rfl)
theorem v_forN : forW p t De [] ρ M = De.nx ρ M := (rfl)
theorem v_forC : forW p t De (d :: ds) ρ M = patW p d ρ (fun ρ1 M1 => t { De with nx := forW p t De ds, ct := forW p t De ds, bk := De.nx } ρ1 M1) M := (rfl)
theorem v_break : dBreak De ρ M = De.bk ρ M := (rfl)
theorem v_cont : dCont De ρ M = De.ct ρ M := (rfl)
theorem v_nm {k : Sl → MS → Prop} : patW (.nm i) d ρ k M = k (ρ.set i (some d)) M := by cases d <;> rfl
theorem v_tp {ps : List Pat} {k : Sl → MS → Prop} : patW (.tp ps) (.tup ds) ρ k M = patsW ps ds ρ k M := (rfl)
theorem v_tpL {ps : List Pat} {k : Sl → MS → Prop} : patW (.tp ps) (.lst ds) ρ k M = patsW ps ds ρ k M := (rfl)
theorem v_tpN {k : Sl → MS → Prop} : patsW [] [] ρ k M = k ρ M := (rfl)
theorem v_tpC {ps : List Pat} {k : Sl → MS → Prop} : patsW (p :: ps) (d :: ds) ρ k M = patW p d ρ (fun ρ1 M1 => patsW ps ds ρ1 k M1) M := (rfl)
theorem v_var : dVar i ρ R E M = match sl ρ i with | some d => R d M | none => False := (rfl)
theorem v_sl0 {o : Option D} {r : Sl} : sl (o :: r) 0 = o := (rfl)
theorem v_slS {o : Option D} {r : Sl} {n : Nat} : sl (o :: r) (n + 1) = sl r n := (rfl)
theorem v_c : dC d ρ R E M = R d M := (rfl)
theorem v_nil {R : List D → MS → Prop} : dNil ρ R E M = R [] M := (rfl)
theorem v_cons {R : List D → MS → Prop} : dCons ta tl ρ R E M = ta ρ (fun x M1 => tl ρ (fun xs M2 => R (x :: xs) M2) E M1) E M := (rfl)
theorem v_tup : dTup tl ρ R E M = tl ρ (fun ds M1 => ds.length ≤ sizeLine ∧ R (.tup ds) M1) E M := (rfl)
theorem v_lst : dLst tl ρ R E M = tl ρ (fun ds M1 => ds.length ≤ sizeLine ∧ R (.lst ds) M1) E M := (rfl)
theorem v_lstN : dLstN tl ρ R E M = tl ρ (fun ds M1 => ds.length ≤ sizeLine ∧ ∀ p, M1 p = none → R (.ref p) (um M1 p (.lst ds))) E M := (rfl)
theorem v_op {f : D → D → PD → MS → Prop} : dOp f ta tb ρ R E M = ta ρ (fun x M1 => tb ρ (fun y M2 => f x y R M2) E M1) E M := (rfl)
theorem v_un {f : D → PD → MS → Prop} : dUn f ta ρ R E M = ta ρ (fun x M1 => f x R M1) E M := (rfl)
theorem v_ix : dIx ta tb ρ R E M = ta ρ (fun x M1 => tb ρ (fun y M2 => ixD x y R M2) E M1) E M := (rfl)
theorem v_tst : dTst te ρ RB E M = te ρ (fun d M1 => match d with | .bl k => RB k M1 | _ => False) E M := (rfl)
theorem v_tru : dTru te ρ RB E M = te ρ (fun d M1 => truD d RB M1) E M := (rfl)
theorem v_and : dAnd tA tB ρ RB E M = tA ρ (fun b M1 => if b = true then tB ρ RB E M1 else RB false M1) E M := (rfl)
theorem v_or : dOr tA tB ρ RB E M = tA ρ (fun b M1 => if b = true then RB true M1 else tB ρ RB E M1) E M := (rfl)
theorem v_not : dNot tA ρ RB E M = tA ρ (fun b M1 => RB (!b) M1) E M := (rfl)
theorem v_andV : dAndV ta tb ρ R E M = ta ρ (fun x M1 => truD x (fun k M2 => if k = true then tb ρ R E M2 else R x M2) M1) E M := (rfl)
theorem v_orV : dOrV ta tb ρ R E M = ta ρ (fun x M1 => truD x (fun k M2 => if k = true then R x M2 else tb ρ R E M2) M1) E M := (rfl)
theorem v_notV : dNotV ta ρ R E M = ta ρ (fun x M1 => truD x (fun k M2 => R (.bl (!k)) M2) M1) E M := (rfl)
theorem v_if : dIf tA ta tb ρ R E M = tA ρ (fun k M1 => if k = true then ta ρ R E M1 else tb ρ R E M1) E M := (rfl)
theorem v_chain {f g : D → D → PD → MS → Prop} : dChain f g ta tb tc ρ R E M = ta ρ (fun x M1 => tb ρ (fun y M2 => f x y (fun z M3 => match z with
  | .bl k => if k = true then tc ρ (fun w M4 => g y w R M4) E M3 else R (.bl false) M3
  | _ => False) M2) E M1) E M := (rfl)
theorem v_noP {R : Option Int → MS → Prop} : dNoPart ρ R E M = R none M := (rfl)
theorem v_part {R : Option Int → MS → Prop} : dPart te ρ R E M = te ρ (fun d M1 => match d with | .int i => R (some i) M1 | _ => False) E M := (rfl)
theorem v_sl : dSl ta lo hi ρ R E M = ta ρ (fun x M1 => lo ρ (fun lo M2 => hi ρ (fun hi M3 => slD x lo hi R M3) E M2) E M1) E M := (rfl)
theorem v_cb {f : List D → PD → MS → Prop} : dCB f tl ρ R E M = tl ρ (fun xs M1 => f xs R M1) E M := (rfl)
theorem v_mt {f : D → List D → PD → MS → Prop} : dMt f to tl ρ R E M = to ρ (fun x M1 => isL M1 x ∧ tl ρ (fun xs M2 => f x xs R M2) E M1) E M := (rfl)
theorem v_call {g : G} : dCall g tl ρ R E M = tl ρ (fun ds M1 => g ds R (fun x M' => E x ρ M') M1) E M := (rfl)
theorem v_items : dItems te ρ = fun (R : List D → MS → Prop) E M => te ρ (fun d M1 => match d with
  | .lst ds => R ds M1
  | .tup ds => R ds M1
  | _ => False) E M := (rfl)
theorem v_rng1 {R : List D → MS → Prop} : dRng1 tl ρ R E M = tl ρ (fun ds M1 => match ds with
  | [.int j] => -(2 ^ 62) ≤ j ∧ j < 2 ^ 62 ∧ R (rng 0 j.toNat) M1
  | _ => False) E M := (rfl)
theorem v_rng2 {R : List D → MS → Prop} : dRng2 tl ρ R E M = tl ρ (fun ds M1 => match ds with
  | [.int i, .int j] => (-(2 ^ 62) ≤ i ∧ i < 2 ^ 62 ∧ -(2 ^ 62) ≤ j ∧ j < 2 ^ 62) ∧ R (rng i (j - i).toNat) M1
  | _ => False) E M := (rfl)
theorem v_lc {tt : DTT} {vs : List Nat} : dLc w p tt te vs ρ R E M = w ρ (fun items M1 => lcW p tt te vs ρ (fun acc M2 => R (.lst acc) M2) items [] M1) E M := (rfl)
theorem v_lcN {tt : DTT} {vs : List Nat} {R : List D → MS → Prop} {acc : List D} : lcW p tt te vs ρ R [] acc M = R acc M := (rfl)
theorem v_lcC {tt : DTT} {vs : List Nat} {R : List D → MS → Prop} {acc : List D} : lcW p tt te vs ρ R (d :: ds) acc M = patW p d (wipeD ρ vs) (fun ρ1 M1 => tt ρ1 (fun b M2 => if b = true then te ρ1 (fun y M3 => acc.length < sizeLine ∧ lcW p tt te vs ρ R ds (acc ++ [y]) M3) noX M2 else lcW p tt te vs ρ R ds acc M2) noX M1) M := (rfl)
theorem v_forL : dForL i p t De ρ M = match sl ρ i with
  | some (.ref a) => ∃ ds, M a = some (.lst ds) ∧ forW p t (lockE a ds De) ds ρ (dm M a)
  | _ => False := (rfl)
theorem v_lcL {tt : DTT} {vs : List Nat} : dLcL i p tt te vs ρ R E M = match sl ρ i with
  | some (.ref a) => ∃ ds, M a = some (.lst ds) ∧ lcW p tt te vs ρ (fun acc M2 => R (.lst acc) (um M2 a (.lst ds))) ds [] (dm M a)
  | _ => False := (rfl)
theorem v_yes : dYes ρ RB E M = RB true M := (rfl)
theorem v_wN : wipeD ρ [] = ρ := (rfl)
theorem v_wC {vs : List Nat} {n : Nat} : wipeD ρ (n :: vs) = (wipeD ρ vs).set n none := (rfl)
theorem v_st0 {ds : List D} : startD [] ds = [] := (rfl)
theorem v_stC {s : Str} {N : List Str} {ds : List D} : startD (s :: N) (d :: ds) = some d :: startD N ds := (rfl)
theorem v_stN {s : Str} {N : List Str} : startD (s :: N) [] = none :: startD N [] := (rfl)
-- operators
theorem q_add {i j : Int} : addD (.int i) (.int j) R M = R (.int (i + j)) M := (rfl)
theorem q_addT : addD (.tup ds) (.tup es) R M = (ds.length + es.length ≤ sizeLine ∧ R (.tup (ds ++ es)) M) := (rfl)
theorem q_addS {i j : Str} : addD (.str i) (.str j) R M = (i.length + j.length ≤ sizeLine ∧ R (.str (i ++ j)) M) := (rfl)
theorem q_addL : addD (.lst ds) (.lst es) R M = (ds.length + es.length ≤ sizeLine ∧ R (.lst (ds ++ es)) M) := by
  apply propext
  constructor
  · rintro ⟨a, b, h1, h2, h3⟩
    cases (show a = ds from h1); cases (show b = es from h2)
    exact h3
  · exact fun h => ⟨_, _, rfl, rfl, h⟩
theorem q_sub {i j : Int} : subD (.int i) (.int j) R M = R (.int (i - j)) M := (rfl)
theorem q_mul {i j : Int} : mulD (.int i) (.int j) R M = (CMulX i j ∧ R (.int (i * j)) M) := (rfl)
theorem q_fdiv {i j : Int} : fdivD (.int i) (.int j) R M = (CDivX i j ∧ R (.int (i.fdiv j)) M) := (rfl)
theorem q_mod {i j : Int} : modD (.int i) (.int j) R M = (j ≠ 0 ∧ R (.int (i.fmod j)) M) := (rfl)
theorem q_pow {i j : Int} : powD (.int i) (.int j) R M = (CPow i j ∧ R (.int (i ^ j.toNat)) M) := (rfl)
theorem q_neg {i : Int} : negD (.int i) R M = R (.int (-i)) M := (rfl)
theorem q_ii {f : Int → Int → Bool} {i j : Int} : iiD f (.int i) (.int j) R M = R (.bl (f i j)) M := (rfl)
theorem q_eqI {f : Bool → Bool} {i j : Int} : eqD f (.int i) (.int j) R M = R (.bl (f (decide (i = j)))) M := (rfl)
theorem q_eqS {f : Bool → Bool} {i j : Str} : eqD f (.str i) (.str j) R M = R (.bl (f (decide (i = j)))) M := (rfl)
theorem q_eqB {f : Bool → Bool} {i j : Bool} : eqD f (.bl i) (.bl j) R M = R (.bl (f (decide (i = j)))) M := (rfl)
theorem q_is {f : Bool → Bool} : isD f x .non R M = R (.bl (f (isNon x))) M := by cases x <;> rfl
theorem q_it0 : itD (x :: ds) 0 R M = R x M := by unfold itD; rw [show atI (x :: ds) 0 = some x from atI_nat (j := 0) rfl]
theorem q_it1 {a : D} : itD (a :: x :: ds) 1 R M = R x M := by unfold itD; rw [show atI (a :: x :: ds) 1 = some x from atI_nat (j := 1) rfl]
theorem q_it2 {a b : D} : itD (a :: b :: x :: ds) 2 R M = R x M := by unfold itD; rw [show atI (a :: b :: x :: ds) 2 = some x from atI_nat (j := 2) rfl]
theorem q_it3 {a b c : D} : itD (a :: b :: c :: x :: ds) 3 R M = R x M := by unfold itD; rw [show atI (a :: b :: c :: x :: ds) 3 = some x from atI_nat (j := 3) rfl]
theorem q_it {n : Nat} (h : ds[n]? = some x) : itD ds (n : Int) R M = R x M := by unfold itD; rw [atI_nat h]
theorem q_ixT {i : Int} : ixD (.tup ds) (.int i) R M = itD ds i R M := (rfl)
theorem q_ixL {i : Int} : ixD (.lst ds) (.int i) R M = itD ds i R M := (rfl)
theorem q_ixR {a : Addr} {i : Int} : ixD (.ref a) (.int i) R M = ∃ ds, M a = some (.lst ds) ∧ itD ds i R M := (rfl)
theorem q_setL {a : Addr} {k : Int} {R : MS → Prop} : setLD (.ref a) (.int k) d R M = ∃ ds j, M a = some (.lst ds) ∧ ixN ds.length k = some j ∧ R (um M a (.lst (ds.set j d))) := (rfl)
theorem q_lenT : lenD [.tup ds] R M = R (.int ds.length) M := (rfl)
theorem q_lenL : lenD [.lst ds] R M = R (.int ds.length) M := (rfl)
theorem q_lenR {a : Addr} : lenD [.ref a] R M = ∃ ds, M a = some (.lst ds) ∧ R (.int ds.length) M := (rfl)
theorem q_slT {lo hi : Option Int} : slD (.tup ds) lo hi R M = R (.tup (cut ds lo hi)) M := (rfl)
theorem q_slL {lo hi : Option Int} : slD (.lst ds) lo hi R M = R (.lst (cut ds lo hi)) M := (rfl)
theorem q_slC {ns : List Int} {lo hi : Option Int} : slD (.scr ns) lo hi R M = R (.lst ((cut ns lo hi).map D.int)) M := (rfl)
theorem q_app {a : Addr} : appD (.ref a) [d] R M = ∃ ds, M a = some (.lst ds) ∧ ds.length < sizeLine ∧ R .non (um M a (.lst (ds ++ [d]))) := (rfl)
theorem q_ext {a : Addr} : extD (.ref a) [d] R M = ∃ ds es, M a = some (.lst ds) ∧ Sq M d es ∧ ds.length + es.length ≤ sizeLine ∧ R .non (um M a (.lst (ds ++ es))) := (rfl)
theorem q_isL {a : Addr} : isL M (.ref a) = ∃ ds, M a = some (.lst ds) := (rfl)
theorem q_tupL : tupD [.lst ds] R M = R (.tup ds) M := by
  apply propext
  constructor
  · rintro ⟨a, h1, h2⟩
    cases (show a = ds from h1)
    exact h2
  · exact fun h => ⟨_, rfl, h⟩
theorem q_tupT : tupD [.tup ds] R M = R (.tup ds) M := by
  apply propext
  constructor
  · rintro ⟨a, h1, h2⟩
    cases (show a = ds from h1)
    exact h2
  · exact fun h => ⟨_, rfl, h⟩
theorem q_tupR {a : Addr} : tupD [.ref a] R M = ∃ ds, M a = some (.lst ds) ∧ R (.tup ds) M := (rfl)
theorem q_tb {b : Bool} : truD (.bl b) RB M = RB b M := (rfl)
theorem q_tn : truD .non RB M = RB false M := (rfl)
theorem q_ti {i : Int} : truD (.int i) RB M = RB (i != 0) M := (rfl)
theorem q_tt : truD (.tup ds) RB M = RB (!ds.isEmpty) M := (rfl)
theorem q_tl : truD (.lst ds) RB M = RB (!ds.isEmpty) M := (rfl)
theorem q_abs {i : Int} : absD [.int i] R M = R (.int (if i < 0 then -i else i)) M := (rfl)
theorem q_min {i j : Int} : minD [.int i, .int j] R M = R (.int (if j < i then j else i)) M := (rfl)
theorem q_max {i j : Int} : maxD [.int i, .int j] R M = R (.int (if j > i then j else i)) M := (rfl)
theorem q_intI {i : Int} : intD [.int i] R M = R (.int i) M := (rfl)
theorem q_intB {b : Bool} : intD [.bl b] R M = R (.int (if b then 1 else 0)) M := (rfl)
theorem q_dnx {a b c e f} : ({ nx := a, rt := b, bk := c, ct := e, ex := f } : DEnds).nx = a := (rfl)
theorem q_drt {a b c e f} : ({ nx := a, rt := b, bk := c, ct := e, ex := f } : DEnds).rt = b := (rfl)
theorem q_dbk {a b c e f} : ({ nx := a, rt := b, bk := c, ct := e, ex := f } : DEnds).bk = c := (rfl)
theorem q_dct {a b c e f} : ({ nx := a, rt := b, bk := c, ct := e, ex := f } : DEnds).ct = e := (rfl)
theorem q_dex {a b c e f} : ({ nx := a, rt := b, bk := c, ct := e, ex := f } : DEnds).ex = f := (rfl)
end
end L2.DL
namespace L2.DL
open PySem PySem.Spec PyProof.Rows
section
variable {M : MS} {R : PD} {d x y : D} {ds es : List D} {f : Bool → Bool}
theorem q_ixN0 {n : Nat} : ixN (n + 1) 0 = some 0 := by unfold ixN; rw [if_pos (by decide), if_pos (by omega)]; rfl
theorem q_ixN1 {n : Nat} : ixN (n + 1 + 1) 1 = some 1 := by unfold ixN; rw [if_pos (by decide), if_pos (by omega)]; rfl
theorem q_ixN2 {n : Nat} : ixN (n + 1 + 1 + 1) 2 = some 2 := by unfold ixN; rw [if_pos (by decide), if_pos (by omega)]; rfl
theorem q_ixN3 {n : Nat} : ixN (n + 1 + 1 + 1 + 1) 3 = some 3 := by unfold ixN; rw [if_pos (by decide), if_pos (by omega)]; rfl
theorem log2_lt {n k : Nat} (h : n < 2 ^ k) (hk : 0 < k) : n.log2 < k := PySem.Flt.log2_lt_of hk h
theorem mul_ok {i j : Int} {a b : Nat} (h1 : i.natAbs < 2 ^ a) (h2 : j.natAbs < 2 ^ b) (h0 : 0 < a) (h3 : 0 < b) (h : a + b ≤ 1000000) : CMulX i j := by
  have x := log2_lt h1 h0
  have y := log2_lt h2 h3
  unfold CMulX
  omega
theorem div_ok {i j : Int} {b : Nat} (h : j ≠ 0) (h2 : j.natAbs < 2 ^ b) (h0 : 0 < b) (h9 : b ≤ 9000) : CDivX i j := ⟨h, Nat.lt_of_lt_of_le (log2_lt h2 h0) h9⟩
/-- data that may be compared, written out -/
def okP (d : D) : Prop := isP d = true ∧ SeqAt.shaped (pd d) = true
theorem eqD_gen (hx : okP x) (hy : okP y) (h : R (.bl (f (PyData.eqv (pd x) (pd y)))) M) : eqD f x y R M := by
  have g : eqG f x y R M := by
    have sx : Sees M x x := by
      cases x with
      | ref a => cases hx.1
      | _ => rfl
    have sy : Sees M y y := by
      cases y with
      | ref a => cases hy.1
      | _ => rfl
    exact ⟨x, y, sx, sy, hx.1, hy.1, hx.2, hy.2, h⟩
  unfold eqD
  split
  · skip
    simpa [pd, PyData.eqv, Bool.beq_eq_decide_eq] using h
  · simpa [pd, PyData.eqv, Bool.beq_eq_decide_eq] using h
  · simpa [pd, PyData.eqv, Bool.beq_eq_decide_eq] using h
  · exact g
theorem pds_ints : ∀ ns : List Int, pds (ns.map D.int) = ns.map PyData.int
  | [] => rfl
  | n :: ns => by show PyData.int n :: pds (ns.map D.int) = _; rw [pds_ints ns]; rfl
theorem isPs_ints : ∀ ns : List Int, isPs (ns.map D.int) = true
  | [] => rfl
  | n :: ns => by show (true && isPs (ns.map D.int)) = true; rw [isPs_ints ns]; rfl
theorem lay_ints : ∀ ns : List Int, PyData.canLayAll0 (ns.map PyData.int) = true ∧ PyData.depthAll (ns.map PyData.int) = 0
  | [] => ⟨by simp [PyData.canLayAll0], by simp [PyData.depthAll]⟩
  | n :: ns => by
    obtain ⟨a, b⟩ := lay_ints ns
    exact ⟨by simp [PyData.canLayAll0, PyData.canLay0, a], by simp [PyData.depthAll, PyData.depth, b]⟩
theorem okP_ints (ns : List Int) : okP (.lst (ns.map D.int)) := by
  obtain ⟨a, b⟩ := lay_ints ns
  refine ⟨isPs_ints ns, ?_⟩
  show SeqAt.shaped (.list (pds (ns.map D.int))) = true
  rw [pds_ints]
  simp [SeqAt.shaped, PyData.canLay0, PyData.depth, a, b]
theorem okP_nil : okP (.lst []) := okP_ints []
theorem q_intsNil {ns : List Int} (h : R (.bl (f ns.isEmpty)) M) : eqD f (.lst (ns.map D.int)) (.lst []) R M := by
  refine eqD_gen (okP_ints ns) okP_nil ?_
  have e : PyData.eqv (pd (.lst (ns.map D.int))) (pd (.lst [])) = ns.isEmpty := by
    show PyData.eqv (.list (pds (ns.map D.int))) (.list (pds [])) = _
    rw [pds_ints]
    cases ns <;> simp [PyData.eqv, PyData.eqvAll, pds]
  rw [e]
  exact h
theorem fmod_nn {i n : Int} (h : 0 < n) : 0 ≤ i.fmod n ∧ i.fmod n < n := ⟨Int.fmod_nonneg_of_pos i h, Int.fmod_lt_of_pos i h⟩
theorem it_in {i : Int} (h0 : 0 ≤ i) (h1 : i < ds.length) (k : ∀ d, d ∈ ds → R d M) : itD ds i R M := by
  obtain ⟨n, rfl⟩ : ∃ n : Nat, i = n := ⟨i.toNat, by omega⟩
  have hn : n < ds.length := by omega
  have e : ds[n]? = some ds[n] := List.getElem?_eq_getElem hn
  rw [q_it e]
  exact k _ (List.getElem_mem hn)
end
end L2.DL
/-! DLj: loops by an invariant over what is left -/
namespace L2.DL
open PySem PySem.Spec PyProof.Rows
theorem for_ind {p : Pat} {t : DTS} {De : DEnds} (I : List D → Sl → MS → Prop)
    (step : ∀ d ds ρ M (Kx : Sl → MS → Prop), I (d :: ds) ρ M → (∀ ρ' M', I ds ρ' M' → Kx ρ' M') → patW p d ρ (fun ρ1 M1 => t { De with nx := Kx, ct := Kx, bk := De.nx } ρ1 M1) M)
    (fin : ∀ ρ M, I [] ρ M → De.nx ρ M) : ∀ {items : List D} {ρ : Sl} {M : MS}, I items ρ M → forW p t De items ρ M
  | [], ρ, M, h => by rw [v_forN]; exact fin ρ M h
  | d :: ds, ρ, M, h => by
    rw [v_forC]
    exact step d ds ρ M _ h fun ρ' M' h' => for_ind I step fin h'
theorem lc_ind {p : Pat} {tt : DTT} {te : DTE} {vs : List Nat} {ρ : Sl} {R : List D → MS → Prop} (I : List D → List D → MS → Prop)
    (step : ∀ d ds acc M (Kx : List D → MS → Prop), I (d :: ds) acc M → (∀ acc' M', I ds acc' M' → Kx acc' M') → patW p d (wipeD ρ vs) (fun ρ1 M1 => tt ρ1 (fun b M2 => if b = true then te ρ1 (fun y M3 => acc.length < sizeLine ∧ Kx (acc ++ [y]) M3) noX M2 else Kx acc M2) noX M1) M)
    (fin : ∀ acc M, I [] acc M → R acc M) : ∀ {items acc : List D} {M : MS}, I items acc M → lcW p tt te vs ρ R items acc M
  | [], acc, M, h => by rw [v_lcN]; exact fin acc M h
  | d :: ds, acc, M, h => by
    rw [v_lcC]
    exact step d ds acc M _ h fun a' M' h' => lc_ind I step fin h'
/-- a comprehension that leaves the store as it is and maps each item -/
theorem lc_map {p : Pat} {te : DTE} {vs : List Nat} {ρ : Sl} {R : List D → MS → Prop} {M : MS} (f : D → D) {items : List D}
    (step : ∀ d, d ∈ items → ∀ (R : PD), R (f d) M → patW p d (wipeD ρ vs) (fun ρ1 M1 => te ρ1 R noX M1) M)
    (hn : items.length ≤ sizeLine) (fin : R (items.map f) M) : lcW p dYes te vs ρ R items [] M := by
  refine lc_ind (fun its acc M' => M' = M ∧ ∃ pre, items = pre ++ its ∧ acc = pre.map f) ?_ ?_ ⟨rfl, [], rfl, rfl⟩
  · rintro d ds acc M' Kx ⟨rfl, pre, e1, e2⟩ hk
    have hl : acc.length < sizeLine := by
      rw [e2, List.length_map]
      have := congrArg List.length e1
      rw [List.length_append, List.length_cons] at this
      omega
    refine step d (by rw [e1]; exact List.mem_append_right _ List.mem_cons_self) (fun y M3 => acc.length < sizeLine ∧ Kx (acc ++ [y]) M3) ⟨hl, hk _ _ ⟨rfl, pre ++ [d], by rw [e1, List.append_assoc]; rfl, by rw [e2, List.map_append]; rfl⟩⟩
  · rintro acc M' ⟨rfl, pre, e1, e2⟩
    rw [List.append_nil] at e1
    rw [e2, ← e1]
    exact fin
theorem mem_rng {d : D} {lo : Int} {n : Nat} (h : d ∈ rng lo n) : ∃ k : Nat, k < n ∧ d = .int (lo + k) := by
  obtain ⟨k, hk, e⟩ := List.mem_map.mp h
  exact ⟨k, List.mem_range.mp hk, e.symm⟩
theorem rng_len {lo : Int} {n : Nat} : (rng lo n).length = n := by
  unfold rng
  rw [List.length_map, List.length_range]
theorem um_comm {M : MS} {a b : Addr} {o u : MO} (h : a ≠ b) : um (um M a o) b u = um (um M b u) a o := by
  funext c
  unfold um
  split
  · split
    · rename_i x y
      exact absurd (y.symm.trans x) h
    · rfl
  · rfl
/-- a store with one list of its own at p (a: the feed), otherwise as M -/
structure Two (Fd : MO → Prop) (M : MS) (a p : Addr) (L : List D) (M' : MS) : Prop where
  fd : ∃ o, M' a = some o ∧ Fd o
  ls : M' p = some (.lst L)
  ne : p ≠ a
  ot : ∀ q, q ≠ a → q ≠ p → M' q = M q
theorem Two.um {F F' : MO → Prop} {M M' : MS} {a p : Addr} {L : List D} {o : MO} (h : Two F M a p L M') (f : F' o) : Two F' M a p L (um M' a o) :=
  ⟨⟨o, um_same, f⟩, (um_ne h.ne).trans h.ls, h.ne, fun q h1 h2 => (um_ne h1).trans (h.ot q h1 h2)⟩
theorem Two.put {F : MO → Prop} {M M' : MS} {a p : Addr} {L L' : List D} (h : Two F M a p L M') : Two F M a p L' (DL.um M' p (.lst L')) := by
  obtain ⟨o, e, f⟩ := h.fd
  exact ⟨⟨o, (um_ne h.ne.symm).trans e, f⟩, um_same, h.ne, fun q h1 h2 => (um_ne h2).trans (h.ot q h1 h2)⟩
theorem Two.new {F : MO → Prop} {M : MS} {a p : Addr} {L : List D} {o : MO} (f : F o) (n : DL.um M a o p = none) : Two F M a p L (DL.um (DL.um M a o) p (.lst L)) := by
  have ne : p ≠ a := by
    intro e
    rw [e, um_same] at n
    cases n
  exact ⟨⟨o, (um_ne ne.symm).trans um_same, f⟩, um_same, ne, fun q h1 h2 => (um_ne h2).trans (um_ne h1)⟩
theorem Two.mono {F F' : MO → Prop} {M M' : MS} {a p : Addr} {L : List D} (h : Two F M a p L M') (k : ∀ o, F o → F' o) : Two F' M a p L M' := by
  obtain ⟨o, e, f⟩ := h.fd
  exact ⟨⟨o, e, k o f⟩, h.ls, h.ne, h.ot⟩
theorem Two.out {F : MO → Prop} {M M' : MS} {a p : Addr} {L : List D} (h : Two F M a p L M') (n : M p = none) : ∃ o, F o ∧ Le (DL.um M a o) M' := by
  obtain ⟨o, e, f⟩ := h.fd
  refine ⟨o, f, fun q u hq => ?_⟩
  by_cases e1 : q = a
  · subst e1
    rw [um_same] at hq
    rw [e, hq]
  · rw [um_ne e1] at hq
    have e2 : q ≠ p := fun e2 => by rw [e2, n] at hq; cases hq
    rw [h.ot q e1 e2, hq]
end L2.DL
/-! DLk: data small enough to be shown and compared -/
namespace L2.DL
open PySem PySem.Spec PyProof.Rows
variable [Tbs]
/-- plain data: numbers below 10^k, at most m deep, weight at most n -/
structure Nice (k m n : Nat) (d : D) : Prop where
  isp : isP d = true
  lay : (pd d).canLay0 = true
  lev : (pd d).leavesShort (k + 1) = true
  shw : (pd d).showable = true
  dep : (pd d).depth ≤ m
  wgt : (pd d).weight ≤ n
theorem Nice.up {k m n m' n' : Nat} {d : D} (h : Nice k m n d) (h1 : m ≤ m') (h2 : n ≤ n') : Nice k m' n' d := ⟨h.isp, h.lay, h.lev, h.shw, Nat.le_trans h.dep h1, Nat.le_trans h.wgt h2⟩
theorem pow10_2 : ∀ k : Nat, 10 ^ k ≤ 2 ^ (4 * k)
  | 0 => Nat.le_refl _
  | k + 1 => by
    have h := pow10_2 k
    rw [Nat.pow_succ, Nat.mul_add, Nat.pow_add]
    exact Nat.mul_le_mul h (by decide)
theorem nice_int {k : Nat} {i : Int} (hk : 0 < k) (hk2 : k ≤ 400) (h : i.natAbs < 10 ^ k) : Nice k 0 (4 * k) (.int i) := by
  have hp := pow10_2 k
  have hl : i.natAbs.log2 < 4 * k := log2_lt (Nat.lt_of_lt_of_le h hp) (by omega)
  refine ⟨rfl, by simp [pd, PyData.canLay0], ?_, ?_, by simp [pd, PyData.depth], ?_⟩
  · have e := int_text_length_le10 hk h
    have e2 : (PyData.shown (.int i)).length ≤ k + 1 := by
      show (Str.ofString (toString i)).length ≤ k + 1
      rw [PySem.ofString_length]
      exact e
    simp only [pd, PyData.leavesShort, decide_eq_true_eq]
    exact e2
  · have : i.natAbs.log2 < 1920 := by omega
    simpa [pd, PyData.showable] using this
  · simp only [pd, PyData.weight]
    split <;> omega
theorem nice_non {k : Nat} : Nice k 0 0 .non := ⟨rfl, by simp [pd, PyData.canLay0], by simp [pd, PyData.leavesShort], by simp [pd, PyData.showable], by simp [pd, PyData.depth], by simp [pd, PyData.weight]⟩
theorem nice_bl {k : Nat} {b : Bool} : Nice k 0 0 (.bl b) := ⟨rfl, by simp [pd, PyData.canLay0], by simp [pd, PyData.leavesShort], by simp [pd, PyData.showable], by simp [pd, PyData.depth], by simp [pd, PyData.weight]⟩
theorem nices {k m n : Nat} : ∀ {ds : List D}, (∀ d, d ∈ ds → Nice k m n d) → isPs ds = true ∧ PyData.canLayAll0 (pds ds) = true ∧ PyData.leavesShortAll (k + 1) (pds ds) = true ∧ PyData.showableAll (pds ds) = true ∧ PyData.depthAll (pds ds) ≤ m ∧ PyData.weightAll (pds ds) ≤ (n + 1) * ds.length
  | [], _ => ⟨rfl, by simp [pds, PyData.canLayAll0], by simp [pds, PyData.leavesShortAll], by simp [pds, PyData.showableAll], by simp [pds, PyData.depthAll], by simp [pds, PyData.weightAll]⟩
  | d :: ds, h => by
    have a := h d List.mem_cons_self
    obtain ⟨b1, b2, b3, b4, b5, b6⟩ := nices fun e he => h e (List.mem_cons_of_mem _ he)
    refine ⟨by show (isP d && isPs ds) = true; rw [a.isp, b1]; rfl, ?_, ?_, ?_, ?_, ?_⟩
    · simp only [pds, PyData.canLayAll0, a.lay, b2, Bool.and_self]
    · simp only [pds, PyData.leavesShortAll, a.lev, b3, Bool.and_self]
    · simp only [pds, PyData.showableAll, a.shw, b4, Bool.and_self]
    · simp only [pds, PyData.depthAll]
      exact Nat.max_le.mpr ⟨a.dep, b5⟩
    · have w := a.wgt
      have e : (n + 1) * (d :: ds).length = (n + 1) * ds.length + (n + 1) := by rw [List.length_cons, Nat.mul_add, Nat.mul_one]
      simp only [pds, PyData.weightAll]
      omega
theorem nice_tup {k m n q : Nat} {ds : List D} (h : ∀ d, d ∈ ds → Nice k m n d) (hn : (n + 1) * ds.length ≤ q) : Nice k (m + 1) q (.tup ds) := by
  obtain ⟨b1, b2, b3, b4, b5, b6⟩ := nices h
  refine ⟨b1, ?_, ?_, ?_, ?_, ?_⟩ <;> simp only [pd, PyData.canLay0, PyData.leavesShort, PyData.showable, PyData.depth, PyData.weight]
  · exact b2
  · exact b3
  · exact b4
  · omega
  · omega
theorem nice_lst {k m n q : Nat} {ds : List D} (h : ∀ d, d ∈ ds → Nice k m n d) (hn : (n + 1) * ds.length ≤ q) : Nice k (m + 1) q (.lst ds) := by
  obtain ⟨b1, b2, b3, b4, b5, b6⟩ := nices h
  refine ⟨b1, ?_, ?_, ?_, ?_, ?_⟩ <;> simp only [pd, PyData.canLay0, PyData.leavesShort, PyData.showable, PyData.depth, PyData.weight]
  · exact b2
  · exact b3
  · exact b4
  · omega
  · omega
theorem nice_str {k n : Nat} {x : Str} (h : PySem.PyData.strOk x = true) (hn : x.length ≤ n) : Nice k 0 n (.str x) := by
  refine ⟨rfl, by simpa [pd, PyData.canLay0] using h, ?_, by simp [pd, PyData.showable], by simp [pd, PyData.depth], by simp only [pd, PyData.weight]; exact hn⟩
  exact PyData.leavesShort_of_canLay0 (k + 1) (.str x) (by simpa [PyData.canLay0] using h) (by simp [PyData.intsShort])
theorem Nice.shown {k m n : Nat} {d : D} (h : Nice k m n d) (hk : 7 ≤ k) : (pd d).shown.length ≤ (k + 3) * n + k + 1 := by
  have e := PyData.shown_le (k + 1) (by omega) (pd d) h.lev
  have := Nat.mul_le_mul_left (k + 3) h.wgt
  rw [show k + 1 + 2 = k + 3 from rfl] at e
  omega
theorem Nice.okR {k m n : Nat} {d : D} (h : Nice k m n d) (hk : 7 ≤ k) (hm : m ≤ 60) (hn : (k + 3) * n + k + 1 ≤ 16777216) : reprOk (pd d) :=
  ⟨h.shw, h.lay, by have := h.shown hk; rw [sizeLine_eq]; omega, Nat.le_trans h.dep hm⟩
theorem Nice.okP {k m n : Nat} {d : D} (h : Nice k m n d) (hm : m ≤ 60) : okP d := by
  refine ⟨h.isp, ?_⟩
  have := h.dep
  unfold SeqAt.shaped
  rw [h.lay, Bool.true_and, decide_eq_true_eq]
  omega
theorem sees_self {M : MS} {d : D} (h : isP d = true) : Sees M d d := by
  cases d with
  | ref a => cases h
  | _ => rfl
theorem repr_of {k m n : Nat} {d : D} {R : PD} {M : MS} (h : Nice k m n d) (hk : 7 ≤ k) (hm : m ≤ 60) (hn : (k + 3) * n + k + 1 ≤ 16777216) (q : R (.str (pd d).shown) M) : reprD [d] R M := ⟨d, sees_self h.isp, h.isp, h.okR hk hm hn, q⟩
theorem eq_of {k m n k' m' n' : Nat} {f : Bool → Bool} {x y : D} {R : PD} {M : MS} (hx : Nice k m n x) (hy : Nice k' m' n' y) (hm : m ≤ 60) (hm' : m' ≤ 60) (h : R (.bl (f (PyData.eqv (pd x) (pd y)))) M) : eqD f x y R M := eqD_gen (hx.okP hm) (hy.okP hm') h
end L2.DL
/-! DLl: one variable or the other; further rules -/
namespace L2.DL
open PySem PySem.Spec PyProof.Rows
variable [Tbs]
def selD (k : Bool) : Option D → Option D → PD → MS → Prop
  | some (.int x), some (.int y), R, M => R (.int (if k = true then x else y)) M
  | a, b, R, M => match (if k = true then a else b) with
    | some d => R d M
    | none => False
def dIfV (tA : DTT) (i j : Nat) : DTE := fun ρ R E M => tA ρ (fun k M1 => selD k (sl ρ i) (sl ρ j) R M1) E M
theorem selD_eq {k : Bool} {a b : Option D} {R : PD} {M : MS} : selD k a b R M = (if k = true then (match a with | some d => R d M | none => False) else (match b with | some d => R d M | none => False)) := by
  unfold selD
  split
  · cases k <;> rfl
  · cases k <;> rfl
theorem dIfV_eq {tA : DTT} {i j : Nat} : dIfV tA i j = dIf tA (dVar i) (dVar j) := by
  funext ρ R E M
  unfold dIfV dIf
  congr 1
  funext k M1
  rw [selD_eq]
  rfl
theorem de_ifV {X : Cx} {W : WX} {e : Expr} {tA : DTT} {i j : Nat} (h : DE X W e (dIf tA (dVar i) (dVar j))) : DE X W e (dIfV tA i j) := by rw [dIfV_eq]; exact h
section
variable {ρ : Sl} {M : MS} {R : PD} {E : XP} {tA : DTT} {i j : Nat} {x y : Int} {k : Bool}
theorem v_ifV : dIfV tA i j ρ R E M = tA ρ (fun k M1 => selD k (sl ρ i) (sl ρ j) R M1) E M := (rfl)
theorem q_selI : selD k (some (.int x)) (some (.int y)) R M = R (.int (if k = true then x else y)) M := (rfl)
end
end L2.DL
/-! DLm: a module's constants; zip in a loop -/
namespace L2.DL
open PySem PySem.Spec PyProof.Rows
variable [Tbs]
/-- a value of the module's that tells this -/
def Kd (K : PySem.W.Frag) (u : Value) (d : D) : Prop := ∃ v, RelV v u ∧ ∀ z H M, Rel ⟨K, z⟩ H M v d
def Kds (K : PySem.W.Frag) : List Value → List D → Prop
  | [], [] => True
  | u :: us, d :: ds => Kd K u d ∧ Kds K us ds
  | _, _ => False
section
variable {K : PySem.W.Frag}
theorem kd_int {i : Int} {t : Tok} : Kd K (.int i t) (.int i) := ⟨.int i, ⟨_, rfl⟩, fun _ _ _ => .int _⟩
theorem kd_str {x : Str} {t : Tok} : Kd K (.str x t) (.str x) := ⟨.str x, ⟨_, rfl⟩, fun _ _ _ => .str _⟩
theorem kd_ref {a : Addr} : Kd K (.ref a) (.ref a) := ⟨.ref a, rfl, fun _ _ _ => .ref _⟩
theorem kds_vals : ∀ {us : List Value} {ds : List D}, Kds K us ds → ∃ vs, Vals vs us ∧ ∀ z H M, RelA ⟨K, z⟩ H M vs ds
  | [], [], _ => ⟨[], .nil, fun _ _ _ => .nil⟩
  | [], _ :: _, h => h.elim
  | _ :: _, [], h => h.elim
  | u :: us, d :: ds, h => by
    obtain ⟨⟨v, r, q⟩, hs⟩ := h
    obtain ⟨vs, r2, q2⟩ := kds_vals hs
    exact ⟨v :: vs, .cons r r2, fun z H M => .cons (q z H M) (q2 z H M)⟩
theorem kd_tup {p : Addr} {od : Option Addr} {its : Array Value} {n : Nat} {sl : Array (Option Value)} {ds : List D} (e : K.lookup p = some ⟨.type "tuple", od, .seq its n, sl⟩) (hs : Kds K its.toList ds) (hz : its.size ≤ sizeLine) : Kd K (.ref p) (.tup ds) := by
  obtain ⟨vs, r, q⟩ := kds_vals hs
  exact ⟨.ref p, rfl, fun z H M => .tup (.inr ⟨_, its, n, e, rfl, rfl, hz, r⟩) (q z H M)⟩
end
def Gd (K : PySem.W.Frag) (mg : Str → Option Value) (x : Str) (d : D) : Prop := ∃ u, mg x = some u ∧ Kd K u d
section
variable {X : Cx} {W : WX} {a b : Expr} {pos : Pos}
theorem de_gd {x : Str} {d : D} (g : Gd X.K X.mg x d) (hg : Gl X x := by rfl) (hd : (x == ("__debug__" : Str)) = false := by decide) : DE X W (.Name x pos) (dC d) := by
  obtain ⟨u, hm, v, r, q⟩ := g
  exact de_c (pe_glob (v := v) hg hm r hd) q
/-! ### zip -/
def zipD (xs ys : List D) : List D := List.zipWith (fun x y => D.tup [x, y]) xs ys
theorem zipD_at {xs ys : List D} {i : Nat} {x y : D} (h1 : xs[i]? = some x) (h2 : ys[i]? = some y) : (zipD xs ys)[i]? = some (.tup [x, y]) := by
  unfold zipD
  rw [List.getElem?_zipWith, h1, h2]
theorem zipD_len {xs ys : List D} : (zipD xs ys).length = min xs.length ys.length := List.length_zipWith
section
variable {K : ZK} {H : Hp} {M : MS}
theorem rel_pair {K : ZK} {H : Hp} {M : MS} {T : Addr} {vx vy : V} {x y : D} (h : H T = none) (m : RelM K H M) (rx : Rel K H M vx x) (ry : Rel K H M vy y) :
    Rel K (upd H T (.tup [vx, vy])) M (.ref T) (.tup [x, y]) := by
  have e := ext_new (o := .tup [vx, vy]) m h
  exact .tup (.inl (.inl upd_same)) (.cons (e _ _ rx) (.cons (e _ _ ry) .nil))
theorem itOk_zipT {a b : Addr} {xs ys : List D} (r1 : Rel K H M (.ref a) (.tup xs)) (r2 : Rel K H M (.ref b) (.tup ys)) : ItOk K (RZ.ItzT K.K a b) (zipD xs ys) H M where
  go := fun K' i H' M' hk hi m e => by
    rw [zipD_len] at hi
    cases e _ _ r1 with
    | tup s ra =>
      cases e _ _ r2 with
      | tup s2 ra2 =>
        obtain ⟨v, q, _⟩ := ra.get (List.getElem?_eq_getElem (Nat.lt_of_lt_of_le hi (Nat.min_le_left _ _)))
        obtain ⟨v2, q2, _⟩ := ra2.get (List.getElem?_eq_getElem (Nat.lt_of_lt_of_le hi (Nat.min_le_right _ _)))
        exact ⟨_, _, v, v2, hk.1 ▸ s, hk.1 ▸ s2, q, q2⟩
  stop := fun K' H' M' hk m e => by
    rw [zipD_len]
    cases e _ _ r1 with
    | tup s ra =>
      cases e _ _ r2 with
      | tup s2 ra2 =>
        refine ⟨_, _, hk.1 ▸ s, hk.1 ▸ s2, ?_⟩
        have l1 := ra.length
        have l2 := ra2.length
        omega
  yld := fun K' i x H' M' H'' hk hi m e y => by
    obtain ⟨T, vx, vy, rfl, hT, rfl, f1, f2⟩ := y
    cases e _ _ r1 with
    | tup s ra =>
      cases e _ _ r2 with
      | tup s2 ra2 =>
        obtain ⟨d1, q1, e1⟩ := ra.getV (f1 _ (hk.1 ▸ s))
        obtain ⟨d2, q2, e2⟩ := ra2.getV (f2 _ (hk.1 ▸ s2))
        exact ⟨_, zipD_at q1 q2, rel_pair hT m e1 e2, relM_new m hT, ext_new m hT⟩
theorem itOk_zipL {a b : Addr} {xs ys : List D} (r1 : Rel K H M (.ref a) (.lst xs)) (r2 : Rel K H M (.ref b) (.lst ys)) : ItOk K (Itz K.K a b) (zipD xs ys) H M where
  go := fun K' i H' M' hk hi m e => by
    rw [zipD_len] at hi
    cases e _ _ r1 with
    | lst s ra =>
      cases e _ _ r2 with
      | lst s2 ra2 =>
        obtain ⟨v, q, _⟩ := ra.get (List.getElem?_eq_getElem (Nat.lt_of_lt_of_le hi (Nat.min_le_left _ _)))
        obtain ⟨v2, q2, _⟩ := ra2.get (List.getElem?_eq_getElem (Nat.lt_of_lt_of_le hi (Nat.min_le_right _ _)))
        exact ⟨_, _, v, v2, hk.1 ▸ s.sq, hk.1 ▸ s2.sq, q, q2⟩
  stop := fun K' H' M' hk m e => by
    rw [zipD_len]
    cases e _ _ r1 with
    | lst s ra =>
      cases e _ _ r2 with
      | lst s2 ra2 =>
        refine ⟨_, _, hk.1 ▸ s.sq, hk.1 ▸ s2.sq, ?_⟩
        have l1 := ra.length
        have l2 := ra2.length
        omega
  yld := fun K' i x H' M' H'' hk hi m e y => by
    obtain ⟨T, vx, vy, rfl, hT, rfl, f1, f2⟩ := y
    cases e _ _ r1 with
    | lst s ra =>
      cases e _ _ r2 with
      | lst s2 ra2 =>
        obtain ⟨d1, q1, e1⟩ := ra.getV (f1 _ (hk.1 ▸ s.sq))
        obtain ⟨d2, q2, e2⟩ := ra2.getV (f2 _ (hk.1 ▸ s2.sq))
        exact ⟨_, zipD_at q1 q2, rel_pair hT m e1 e2, relM_new m hT, ext_new m hT⟩
end
def zipR : List D → (List D → MS → Prop) → MS → Prop
  | [.tup xs, .tup ys], R, M => R (zipD xs ys) M
  | [.lst xs, .lst ys], R, M => R (zipD xs ys) M
  | _, _, _ => False
def dZip (t : DTA) : DTI := fun ρ R E M => t ρ (fun ds M1 => zipR ds R M1) E M
theorem di_zip {t : DTA} {pp tpos : Pos} {elts : List Expr} {kk : Nat} (hm : X.mg "zip" = none) (ha : DA X W [a, b] t) (hg : Gl X "zip" := by rfl)
    (hs : starEach [a, b] X.env = (false, eval a X.env) :: starEach [b] X.env := by rfl) (hpl : (backTo pos (starEach [b] X.env)).any (·.1) = false := by rfl) :
    DI X W (.Tuple elts kk tpos) (.Call (.Name "zip" pp) [a, b] [] pos) (dZip t) :=
  impI (RZ.pi_zipA hg hm ha hs hpl) fun σ H Q ⟨z, ρ, M, R, E, hs, hm, h, hc, hE⟩ =>
    ⟨z, ρ, M, _, E, hs, hm, h, fun ds M1 vs H1 h1 m1 r1 e1 => by
      unfold zipR at h1
      split at h1
      · cases r1 with
        | cons x y =>
          cases y with
          | cons y y2 =>
            cases y2
            cases x with
            | tup s ra =>
              cases y with
              | tup s2 ra2 => exact ⟨_, _, _, _, rfl, .inr ⟨s, s2, hc _ _ _ _ h1 m1 e1 (itOk_zipT (.tup s ra) (.tup s2 ra2))⟩⟩
      · cases r1 with
        | cons x y =>
          cases y with
          | cons y y2 =>
            cases y2
            cases x with
            | lst s ra =>
              cases y with
              | lst s2 ra2 => exact ⟨_, _, _, _, rfl, .inl ⟨s.sq, s2.sq, hc _ _ _ _ h1 m1 e1 (itOk_zipL (.lst s ra) (.lst s2 ra2))⟩⟩
      · exact h1.elim, hE⟩
end
section
variable {ρ : Sl} {M : MS} {t : DTA} {xs ys : List D} {R : List D → MS → Prop}
theorem v_zip : dZip t ρ = fun (R : List D → MS → Prop) E M => t ρ (fun ds M1 => zipR ds R M1) E M := (rfl)
theorem q_zipT : zipR [.tup xs, .tup ys] R M = R (zipD xs ys) M := (rfl)
theorem q_zipL : zipR [.lst xs, .lst ys] R M = R (zipD xs ys) M := (rfl)
end
end L2.DL
/-! DLn: fractions (plain) -/
namespace L2.DL
open PySem PySem.Spec PyProof.Rows
variable [Tbs]
/-- a fraction as the program writes it -/
def eF (q : Rat) : D := .tup [.int q.num, .int q.den]
theorem rat_num {a b g : Int} (hb : 0 < b) (e : g = ((Int.gcd a b : Nat) : Int)) : a.fdiv g = (Rat.divInt a b).num := by
  have hd : g ∣ a := by rw [e]; exact Int.gcd_dvd_left ..
  rw [Int.fdiv_eq_ediv_of_dvd hd, Rat.num_divInt, Int.sign_eq_one_of_pos hb, Int.one_mul, Int.gcd_comm, e]
theorem rat_den {a b g : Int} (hb : 0 < b) (e : g = ((Int.gcd a b : Nat) : Int)) : b.fdiv g = ((Rat.divInt a b).den : Int) := by
  have hd : g ∣ b := by rw [e]; exact Int.gcd_dvd_right ..
  rw [Int.fdiv_eq_ediv_of_dvd hd, Rat.den_divInt, if_neg (by omega), Int.gcd_comm b a, e, Int.natCast_ediv]
  rw [show ((b.natAbs : Nat) : Int) = b by omega]
theorem ratn_num {a b g : Int} (hb : b < 0) (e : g = ((Int.gcd a b : Nat) : Int)) : a.fdiv (0 - g) = (Rat.divInt a b).num := by
  have h := rat_num (a := -a) (b := -b) (g := g) (by omega) (by rw [e, Int.gcd_neg, Int.neg_gcd])
  rw [Rat.neg_divInt_neg] at h
  rw [← h, Int.zero_sub]
  have hd : g ∣ a := by rw [e]; exact Int.gcd_dvd_left ..
  rw [Int.fdiv_eq_ediv_of_dvd (Int.neg_dvd.mpr hd), Int.fdiv_eq_ediv_of_dvd (Int.dvd_neg.mpr hd), Int.ediv_neg, Int.neg_ediv_of_dvd hd]
theorem ratn_den {a b g : Int} (hb : b < 0) (e : g = ((Int.gcd a b : Nat) : Int)) : b.fdiv (0 - g) = ((Rat.divInt a b).den : Int) := by
  have h := rat_den (a := -a) (b := -b) (g := g) (by omega) (by rw [e, Int.gcd_neg, Int.neg_gcd])
  rw [Rat.neg_divInt_neg] at h
  rw [← h, Int.zero_sub]
  have hd : g ∣ b := by rw [e]; exact Int.gcd_dvd_right ..
  rw [Int.fdiv_eq_ediv_of_dvd (Int.neg_dvd.mpr hd), Int.fdiv_eq_ediv_of_dvd (Int.dvd_neg.mpr hd), Int.ediv_neg, Int.neg_ediv_of_dvd hd]
/-! sizes -/
def Bd (n : Nat) (i : Int) : Prop := i.natAbs < 2 ^ n
theorem Bd.mono {n m : Nat} {i : Int} (h : Bd n i) (k : n ≤ m) : Bd m i := Nat.lt_of_lt_of_le h (Nat.pow_le_pow_right (by decide) k)
theorem Bd.mul {n m : Nat} {i j : Int} (h : Bd n i) (k : Bd m j) : Bd (n + m) (i * j) := by
  unfold Bd
  rw [Int.natAbs_mul, Nat.pow_add]
  exact Nat.mul_lt_mul'' h k
theorem Bd.add {n : Nat} {i j : Int} (h : Bd n i) (k : Bd n j) : Bd (n + 1) (i + j) := by
  unfold Bd at *
  have := Int.natAbs_add_le i j
  rw [Nat.pow_succ]
  omega
theorem Bd.neg {n : Nat} {i : Int} (h : Bd n i) : Bd n (-i) := by unfold Bd; rw [Int.natAbs_neg]; exact h
theorem Bd.sub {n : Nat} {i j : Int} (h : Bd n i) (k : Bd n j) : Bd (n + 1) (i - j) := by rw [Int.sub_eq_add_neg]; exact h.add k.neg
theorem Bd.log {n : Nat} {i : Int} (h : Bd n i) (hn : 0 < n) : i.natAbs.log2 < n := log2_lt h hn
theorem Bd.cmul {n m : Nat} {i j : Int} (h : Bd n i) (k : Bd m j) (hn : n ≤ 400000) (hm : m ≤ 400000) : CMulX i j := by
  have a := (h.mono (Nat.le_succ n)).log (Nat.succ_pos n)
  have b := (k.mono (Nat.le_succ m)).log (Nat.succ_pos m)
  unfold CMulX
  omega
theorem Bd.of_le {n : Nat} {i j : Int} (h : Bd n j) (k : i.natAbs ≤ j.natAbs) : Bd n i := Nat.lt_of_le_of_lt k h
theorem bd_of {n : Nat} {i : Int} (h : i.natAbs < 2 ^ n) : Bd n i := h
theorem Bd.lt {n : Nat} {i : Int} (h : Bd n i) : i.natAbs < 2 ^ n := h
/-- both parts of the fraction below 2^n -/
structure Sz (n : Nat) (q : Rat) : Prop where
  num : Bd n q.num
  den : Bd n (q.den : Int)
theorem Sz.mono {n m : Nat} {q : Rat} (h : Sz n q) (k : n ≤ m) : Sz m q := ⟨h.num.mono k, h.den.mono k⟩
theorem sz_divInt {n : Nat} {a b : Int} (ha : Bd n a) (hb : Bd n b) (h0 : b ≠ 0) : Sz n (Rat.divInt a b) := by
  refine ⟨ha.of_le ?_, hb.of_le ?_⟩
  · rw [Rat.num_divInt, Int.natAbs_ediv_of_dvd]
    · refine Nat.le_trans (Nat.div_le_self _ _) ?_
      rw [Int.natAbs_mul, Int.natAbs_sign_of_ne_zero h0, Nat.one_mul]
      exact Nat.le_refl _
    · exact Int.dvd_mul_of_dvd_right (Int.gcd_dvd_right ..)
  · rw [Rat.den_divInt, if_neg h0]
    exact Nat.div_le_self _ _
theorem den_pos (q : Rat) : (0 : Int) < q.den := by have := q.den_pos; omega
theorem den_ne (q : Rat) : (q.den : Int) ≠ 0 := by have := den_pos q; omega
theorem self_eq (q : Rat) : Rat.divInt q.num q.den = q := Rat.num_divInt_den q
theorem add_eq (p q : Rat) : Rat.divInt (p.num * q.den + q.num * p.den) (p.den * q.den) = p + q := by
  rw [← Rat.divInt_add_divInt _ _ (den_ne p) (den_ne q), self_eq, self_eq]
theorem sub_eq (p q : Rat) : Rat.divInt (p.num * q.den - q.num * p.den) (p.den * q.den) = p - q := by
  rw [← Rat.divInt_sub_divInt _ _ (den_ne p) (den_ne q), self_eq, self_eq]
theorem mul_eq (p q : Rat) : Rat.divInt (p.num * q.num) (p.den * q.den) = p * q := by
  rw [← Rat.divInt_mul_divInt, self_eq, self_eq]
theorem Sz.add {n m : Nat} {p q : Rat} (h : Sz n p) (k : Sz m q) : Sz (n + m + 1) (p + q) := by
  rw [← add_eq]
  have e := k.num.mul h.den
  rw [Nat.add_comm] at e
  exact sz_divInt ((h.num.mul k.den).add e) ((h.den.mul k.den).mono (Nat.le_succ _)) (Int.mul_ne_zero (den_ne p) (den_ne q))
theorem Sz.sub {n m : Nat} {p q : Rat} (h : Sz n p) (k : Sz m q) : Sz (n + m + 1) (p - q) := by
  rw [← sub_eq]
  have e := k.num.mul h.den
  rw [Nat.add_comm] at e
  exact sz_divInt ((h.num.mul k.den).sub e) ((h.den.mul k.den).mono (Nat.le_succ _)) (Int.mul_ne_zero (den_ne p) (den_ne q))
theorem Sz.mul {n m : Nat} {p q : Rat} (h : Sz n p) (k : Sz m q) : Sz (n + m) (p * q) := by
  rw [← mul_eq]
  exact sz_divInt (h.num.mul k.num) (h.den.mul k.den) (Int.mul_ne_zero (den_ne p) (den_ne q))
theorem eF_inj {p q : Rat} (h : eF p = eF q) : p = q := by
  unfold eF at h
  simp only [D.tup.injEq, List.cons.injEq, D.int.injEq, and_true] at h
  exact Rat.ext h.1 (by omega)
theorem Sz.nice {n : Nat} {q : Rat} (h : Sz n q) {k : Nat} (hn : 2 ^ n ≤ 10 ^ k) (hk : 0 < k) (hk2 : k ≤ 400) : Nice k 1 (8 * k + 2) (eF q) := by
  refine nice_tup (n := 4 * k) (fun d hd => ?_) (by simp only [List.length_cons, List.length_nil]; omega)
  simp only [List.mem_cons, List.not_mem_nil, or_false] at hd
  rcases hd with rfl | rfl
  · exact nice_int hk hk2 (Nat.lt_of_lt_of_le h.num hn)
  · exact nice_int hk hk2 (Nat.lt_of_lt_of_le h.den hn)
/-- fractions are compared by value, whatever their size -/
theorem okP_eF (q : Rat) : okP (eF q) := ⟨rfl, by simp [eF, pd, pds, SeqAt.shaped, PyData.canLay0, PyData.canLayAll0, PyData.depth, PyData.depthAll]⟩
theorem eqv_eF (p q : Rat) : PyData.eqv (pd (eF p)) (pd (eF q)) = decide (p = q) := by
  have e : PyData.eqv (pd (eF p)) (pd (eF q)) = (decide (p.num = q.num) && decide ((p.den : Int) = q.den)) := by
    simp [eF, pd, pds, PyData.eqv, PyData.eqvAll]
    rfl
  rw [e, Bool.eq_iff_iff]
  simp only [Bool.and_eq_true, decide_eq_true_eq]
  constructor
  · exact fun h => Rat.ext h.1 (by omega)
  · rintro rfl; exact ⟨rfl, rfl⟩
theorem eq_eF {f : Bool → Bool} {p q : Rat} {R : PD} {M : MS} (h : R (.bl (f (decide (p = q)))) M) : eqD f (eF p) (eF q) R M := eqD_gen (okP_eF p) (okP_eF q) (by rw [eqv_eF]; exact h)
end L2.DL
namespace L2.DL
open PySem PySem.Spec PyProof.Rows
variable [Tbs]
/-- while, by a measure -/
theorem while_ind {tA : DTT} {t : DTS} {De : DEnds} (I : Nat → Sl → MS → Prop)
    (step : ∀ m ρ M (Kx : Sl → MS → Prop), I m ρ M → (∀ m' ρ' M', m' < m → I m' ρ' M' → Kx ρ' M') → tA ρ (fun k M1 => if k = true then t { De with nx := Kx, ct := Kx, bk := De.nx } ρ M1 else De.nx ρ M1) De.ex M) {m : Nat} {ρ : Sl} {M : MS} (h : I m ρ M) : dWhile tA t De ρ M := by
  have key : ∀ n m ρ M, m < n → I m ρ M → whileW tA t De n ρ M := by
    intro n
    induction n with
    | zero => intro m ρ M h; omega
    | succ n ih =>
      intro m ρ M hm hI
      exact step m ρ M _ hI fun m' ρ' M' h1 h2 => ih m' ρ' M' (by omega) h2
  exact ⟨m + 1, key (m + 1) m ρ M (Nat.lt_succ_self m) h⟩
theorem gcd_step {a b : Int} (ha : 0 ≤ a) (hb : 0 < b) : Int.gcd b (a.fmod b) = Int.gcd a b := by
  obtain ⟨m, rfl⟩ := Int.eq_ofNat_of_zero_le ha
  obtain ⟨n, rfl⟩ := Int.eq_ofNat_of_zero_le (Int.le_of_lt hb)
  rw [Int.fmod_eq_emod_of_nonneg _ (by omega), ← Int.natCast_emod, Int.gcd_natCast_natCast, Int.gcd_natCast_natCast, Nat.gcd_comm m n, Nat.gcd_rec n m, Nat.gcd_comm]
end L2.DL
/-! DLo: comprehensions over mapped lists; tuples of fractions -/
namespace L2.DL
open PySem PySem.Spec PyProof.Rows
variable [Tbs]
theorem lc_mapG {α : Type} {p : Pat} {te : DTE} {vs : List Nat} {ρ : Sl} {R : List D → MS → Prop} {M : MS} (e g : α → D) {ps : List α}
    (step : ∀ x, x ∈ ps → ∀ (R : PD), R (g x) M → patW p (e x) (wipeD ρ vs) (fun ρ1 M1 => te ρ1 R noX M1) M)
    (hn : ps.length ≤ sizeLine) (fin : R (ps.map g) M) : lcW p dYes te vs ρ R (ps.map e) [] M := by
  refine lc_ind (fun its acc M' => M' = M ∧ ∃ pre suf, its = suf.map e ∧ ps = pre ++ suf ∧ acc = pre.map g) ?_ ?_ ⟨rfl, [], ps, rfl, rfl, rfl⟩
  · rintro d ds acc M' Kx ⟨rfl, pre, suf, e0, e1, e2⟩ hk
    cases suf with
    | nil => cases e0
    | cons x suf =>
      cases e0
      have hl : acc.length < sizeLine := by
        rw [e2, List.length_map]
        have := congrArg List.length e1
        rw [List.length_append, List.length_cons] at this
        omega
      exact step x (by rw [e1]; exact List.mem_append_right _ List.mem_cons_self) (fun y M3 => acc.length < sizeLine ∧ Kx (acc ++ [y]) M3) ⟨hl, hk _ _ ⟨rfl, pre ++ [x], suf, rfl, by rw [e1, List.append_assoc]; rfl, by rw [e2, List.map_append]; rfl⟩⟩
  · rintro acc M' ⟨rfl, pre, suf, e0, e1, e2⟩
    have : suf = [] := by cases suf <;> first | rfl | cases e0
    subst this
    rw [List.append_nil] at e1
    rw [e2, ← e1]
    exact fin
theorem zipD_map {α β : Type} (e1 : α → D) (e2 : β → D) : ∀ (us : List α) (cs : List β), zipD (us.map e1) (cs.map e2) = (us.zip cs).map (fun p => .tup [e1 p.1, e2 p.2])
  | [], _ => rfl
  | _ :: _, [] => rfl
  | u :: us, c :: cs => by
    show D.tup [e1 u, e2 c] :: zipD (us.map e1) (cs.map e2) = _
    rw [zipD_map e1 e2 us cs]
    rfl
/-- tuples of fractions -/
def eFs (qs : List Rat) : D := .tup (qs.map eF)
theorem pds_eFs : ∀ qs : List Rat, isPs (qs.map eF) = true ∧ PyData.canLayAll0 (pds (qs.map eF)) = true ∧ PyData.depthAll (pds (qs.map eF)) ≤ 1
  | [] => ⟨rfl, by simp [pds, PyData.canLayAll0], by simp [pds, PyData.depthAll]⟩
  | q :: qs => by
    obtain ⟨a, b, c⟩ := pds_eFs qs
    refine ⟨by show (true && isPs (qs.map eF)) = true; rw [a]; rfl, ?_, ?_⟩
    · simp [List.map_cons, pds, eF, pd, PyData.canLayAll0, PyData.canLay0, b]
    · simp [List.map_cons, pds, eF, pd, PyData.depthAll, PyData.depth]
      omega
theorem okP_of {d : D} (h1 : isP d = true) (h2 : (pd d).canLay0 = true) (h3 : (pd d).depth ≤ 64) : okP d := by
  refine ⟨h1, ?_⟩
  unfold SeqAt.shaped
  rw [h2, decide_eq_true h3]
  rfl
theorem okP_eFs (qs : List Rat) : okP (eFs qs) := by
  obtain ⟨a, b, c⟩ := pds_eFs qs
  refine okP_of a ?_ ?_
  · simp only [eFs, pd, PyData.canLay0, b]
  · simp only [eFs, pd, PyData.depth]; omega
theorem eqvA_eFs : ∀ ps qs : List Rat, PyData.eqvAll (pds (ps.map eF)) (pds (qs.map eF)) = decide (ps = qs)
  | [], [] => by simp [pds, PyData.eqvAll]
  | [], _ :: _ => by simp [pds, PyData.eqvAll]
  | _ :: _, [] => by simp [pds, PyData.eqvAll]
  | p :: ps, q :: qs => by
    have h : PyData.eqvAll (pds ((p :: ps).map eF)) (pds ((q :: qs).map eF)) = (PyData.eqv (pd (eF p)) (pd (eF q)) && PyData.eqvAll (pds (ps.map eF)) (pds (qs.map eF))) := by
      simp [pds, PyData.eqvAll]
    rw [h, eqv_eF, eqvA_eFs ps qs]
    simp [Bool.decide_and]
theorem eq_eFs {f : Bool → Bool} {ps qs : List Rat} {R : PD} {M : MS} (h : R (.bl (f (decide (ps = qs)))) M) : eqD f (eFs ps) (eFs qs) R M := by
  refine eqD_gen (okP_eFs ps) (okP_eFs qs) ?_
  have e : PyData.eqv (pd (eFs ps)) (pd (eFs qs)) = decide (ps = qs) := by
    rw [← eqvA_eFs]
    simp [eFs, pd, PyData.eqv]
  rw [e]
  exact h
theorem repr_bl {b : Bool} {R : PD} {M : MS} (h : R (.str (pd (.bl b)).shown) M) : reprD [.bl b] R M := repr_of (k := 7) nice_bl (by decide) (by decide) (by decide) h
end L2.DL
/-! DLp: isinstance by built-in classes; is True -/
namespace L2.DL
open PySem PySem.Spec PyProof.Rows
variable [Tbs]
/-- the name of a value's class -/
def tyN (M : MS) : D → Option String
  | .non => some "NoneType"
  | .bl _ => some "bool"
  | .int _ => some "int"
  | .str _ => some "str"
  | .tup _ => some "tuple"
  | .lst _ => some "list"
  | .scr _ => some "list"
  | .ref a => match M a with
    | some (.lst _) => some "list"
    | _ => none
  | .ty _ => none
  | .fn _ => none
  | .clo _ _ _ => none
theorem tyx_of {K : ZK} {H : Hp} {M : MS} {v : V} {d : D} {t : String} (m : RelM K H M) (r : Rel K H M v d) (h : tyN M d = some t) : TyX K.K H v (.type t) := by
  cases r with
  | non => cases h; exact .base .non
  | bl b => cases h; exact .base (.bl b)
  | int i => cases h; exact .base (.int i)
  | str x => cases h; exact .base (.str x)
  | ty n => cases h
  | fn s => cases h
  | clo s _ _ => cases h
  | tup s ra =>
    cases h
    rcases s with (s | ⟨ob, s⟩) | ⟨o, its, n, e, c, _⟩
    · exact .base (.tup s)
    · exact .fTuple s
    · exact .kTuple e c
  | lst s ra =>
    cases h
    exact .base (.lst s.2)
  | scr s =>
    cases h
    rcases s with ⟨ob, s⟩ | ⟨o, its, n, e, c, _⟩
    · exact .base (.frz s)
    · exact .kList e c
  | ref a =>
    have h' : (match M a with
      | some (.lst _) => some "list"
      | _ => none) = some t := h
    split at h'
    · rename_i ds q
      cases h'
      obtain ⟨vs, q1, _⟩ := m.at' a _ q
      exact .base (.lst q1)
    · cases h'
def isiD : List D → PD → MS → Prop
  | [x, .ty T], R, M => ∃ t b, tyN M x = some t ∧ kitB t T = some b ∧ R (.bl b) M
  | _, _, _ => False
theorem c_isi {X : Cx} : CallD X (.builtin "isinstance") isiD := by
  refine ⟨_, call_isi, fun z H M xs vs R Q m ra h hc => ?_⟩
  unfold isiD at h
  split at h
  · obtain ⟨t, b, h1, h2, q⟩ := h
    cases ra with
    | cons x y =>
      cases y with
      | cons y y2 =>
        cases y2
        cases y
        exact ⟨_, _, _, _, b, rfl, .ty _, tyx_of m x h1, kit_ty h2, hc.here q m (.bl _)⟩
  · exact h.elim
theorem bt_isinstance : bootBuiltins "isinstance" = some (.builtin "isinstance") := by decide +kernel
theorem bt_bool : bootBuiltins "bool" = some (.type "bool") := by decide +kernel
theorem bt_str : bootBuiltins "str" = some (.type "str") := by decide +kernel
/-- a built-in class by its name -/
theorem de_ty {X : Cx} {W : WX} {x : Str} {n : String} {pos : Pos} (hm : X.mg x = none) (hv : bootBuiltins x = some (.type n)) (hg : Gl X x := by rfl) (hn : x ≠ "__name__" := by decide) (hd : (x == ("__debug__" : Str)) = false := by decide) : DE X W (.Name x pos) (dC (.ty n)) :=
  de_c (v := .ty n) (pe_bltn hg hm hv rfl hn hd) fun _ _ _ => .ty _
section
variable {R : PD} {M : MS}
theorem isi_eq {x : D} {T t : String} {b : Bool} (h1 : tyN M x = some t) (h2 : kitB t T = some b) : isiD [x, .ty T] R M = R (.bl b) M := by
  apply propext
  constructor
  · rintro ⟨t', b', e1, e2, q⟩
    rw [h1] at e1
    cases e1
    rw [h2] at e2
    cases e2
    exact q
  · exact fun q => ⟨t, b, h1, h2, q⟩
theorem q_isi_non_int  : isiD [.non, .ty "int"] R M = R (.bl false) M := isi_eq (t := "NoneType") rfl (by decide +kernel)
theorem q_isi_non_bool  : isiD [.non, .ty "bool"] R M = R (.bl false) M := isi_eq (t := "NoneType") rfl (by decide +kernel)
theorem q_isi_non_str  : isiD [.non, .ty "str"] R M = R (.bl false) M := isi_eq (t := "NoneType") rfl (by decide +kernel)
theorem q_isi_non_tuple  : isiD [.non, .ty "tuple"] R M = R (.bl false) M := isi_eq (t := "NoneType") rfl (by decide +kernel)
theorem q_isi_non_list  : isiD [.non, .ty "list"] R M = R (.bl false) M := isi_eq (t := "NoneType") rfl (by decide +kernel)
theorem q_isi_bl_int {b : Bool} : isiD [(.bl b), .ty "int"] R M = R (.bl true) M := isi_eq (t := "bool") rfl (by decide +kernel)
theorem q_isi_bl_bool {b : Bool} : isiD [(.bl b), .ty "bool"] R M = R (.bl true) M := isi_eq (t := "bool") rfl (by decide +kernel)
theorem q_isi_bl_str {b : Bool} : isiD [(.bl b), .ty "str"] R M = R (.bl false) M := isi_eq (t := "bool") rfl (by decide +kernel)
theorem q_isi_bl_tuple {b : Bool} : isiD [(.bl b), .ty "tuple"] R M = R (.bl false) M := isi_eq (t := "bool") rfl (by decide +kernel)
theorem q_isi_bl_list {b : Bool} : isiD [(.bl b), .ty "list"] R M = R (.bl false) M := isi_eq (t := "bool") rfl (by decide +kernel)
theorem q_isi_int_int {i : Int} : isiD [(.int i), .ty "int"] R M = R (.bl true) M := isi_eq (t := "int") rfl (by decide +kernel)
theorem q_isi_int_bool {i : Int} : isiD [(.int i), .ty "bool"] R M = R (.bl false) M := isi_eq (t := "int") rfl (by decide +kernel)
theorem q_isi_int_str {i : Int} : isiD [(.int i), .ty "str"] R M = R (.bl false) M := isi_eq (t := "int") rfl (by decide +kernel)
theorem q_isi_int_tuple {i : Int} : isiD [(.int i), .ty "tuple"] R M = R (.bl false) M := isi_eq (t := "int") rfl (by decide +kernel)
theorem q_isi_int_list {i : Int} : isiD [(.int i), .ty "list"] R M = R (.bl false) M := isi_eq (t := "int") rfl (by decide +kernel)
theorem q_isi_str_int {s : Str} : isiD [(.str s), .ty "int"] R M = R (.bl false) M := isi_eq (t := "str") rfl (by decide +kernel)
theorem q_isi_str_bool {s : Str} : isiD [(.str s), .ty "bool"] R M = R (.bl false) M := isi_eq (t := "str") rfl (by decide +kernel)
theorem q_isi_str_str {s : Str} : isiD [(.str s), .ty "str"] R M = R (.bl true) M := isi_eq (t := "str") rfl (by decide +kernel)
theorem q_isi_str_tuple {s : Str} : isiD [(.str s), .ty "tuple"] R M = R (.bl false) M := isi_eq (t := "str") rfl (by decide +kernel)
theorem q_isi_str_list {s : Str} : isiD [(.str s), .ty "list"] R M = R (.bl false) M := isi_eq (t := "str") rfl (by decide +kernel)
theorem q_isi_tup_int {ds : List D} : isiD [(.tup ds), .ty "int"] R M = R (.bl false) M := isi_eq (t := "tuple") rfl (by decide +kernel)
theorem q_isi_tup_bool {ds : List D} : isiD [(.tup ds), .ty "bool"] R M = R (.bl false) M := isi_eq (t := "tuple") rfl (by decide +kernel)
theorem q_isi_tup_str {ds : List D} : isiD [(.tup ds), .ty "str"] R M = R (.bl false) M := isi_eq (t := "tuple") rfl (by decide +kernel)
theorem q_isi_tup_tuple {ds : List D} : isiD [(.tup ds), .ty "tuple"] R M = R (.bl true) M := isi_eq (t := "tuple") rfl (by decide +kernel)
theorem q_isi_tup_list {ds : List D} : isiD [(.tup ds), .ty "list"] R M = R (.bl false) M := isi_eq (t := "tuple") rfl (by decide +kernel)
theorem q_isi_lst_int {ds : List D} : isiD [(.lst ds), .ty "int"] R M = R (.bl false) M := isi_eq (t := "list") rfl (by decide +kernel)
theorem q_isi_lst_bool {ds : List D} : isiD [(.lst ds), .ty "bool"] R M = R (.bl false) M := isi_eq (t := "list") rfl (by decide +kernel)
theorem q_isi_lst_str {ds : List D} : isiD [(.lst ds), .ty "str"] R M = R (.bl false) M := isi_eq (t := "list") rfl (by decide +kernel)
theorem q_isi_lst_tuple {ds : List D} : isiD [(.lst ds), .ty "tuple"] R M = R (.bl false) M := isi_eq (t := "list") rfl (by decide +kernel)
theorem q_isi_lst_list {ds : List D} : isiD [(.lst ds), .ty "list"] R M = R (.bl true) M := isi_eq (t := "list") rfl (by decide +kernel)
end
/-! x is None, b is True -/
def isX (f : Bool → Bool) : D → D → PD → MS → Prop
  | .bl a, .bl b, R, M => R (.bl (f (decide (a = b)))) M
  | x, y, R, M => isD f x y R M
theorem o_isX {X : Cx} : OpD X (compareOp .Is) (isX id) := by
  obtain ⟨r, h1, h2⟩ := o_is (X := X)
  refine ⟨_, op_is_bl.or h1, fun z H M x y vx vy R Q m rx ry h hc => ?_⟩
  unfold isX at h
  split at h
  · cases rx
    cases ry
    exact .inl ⟨_, _, rfl, rfl, hc.here h m (.bl _)⟩
  · exact .inr (h2 _ _ _ _ _ _ _ _ _ m rx ry h hc)
theorem o_isnotX {X : Cx} : OpD X (compareOp .IsNot) (isX fun k => !k) := by
  obtain ⟨r, h1, h2⟩ := o_isnot (X := X)
  refine ⟨_, op_isnot_bl.or h1, fun z H M x y vx vy R Q m rx ry h hc => ?_⟩
  unfold isX at h
  split at h
  · cases rx
    cases ry
    exact .inl ⟨_, _, rfl, rfl, hc.here h m (.bl _)⟩
  · exact .inr (h2 _ _ _ _ _ _ _ _ _ m rx ry h hc)
section
variable {R : PD} {M : MS} {f : Bool → Bool} {x : D} {a b : Bool}
theorem q_isX : isX f x .non R M = R (.bl (f (isNon x))) M := by cases x <;> rfl
theorem q_isB : isX f (.bl a) (.bl b) R M = R (.bl (f (decide (a = b)))) M := (rfl)
end
end L2.DL
/-! DLq: zip of two tuples, strict, at the library's level -/
namespace L2.DL
open PySem
variable [Tbs]
theorem zs_type (a b : Value) : checkTypeCall "zip" ⟨[a, b], [("strict", .bool true)]⟩ = pure () := by kernel_rfl
theorem zs_new (a b : Value) : checkBuiltinCall "zip.__new__" ⟨[.type "zip", a, b], [("strict", .bool true)]⟩ = pure () := by kernel_rfl
theorem zs_init (a b c : Value) : argsOk "object.__init__" ⟨[a, b, c], [("strict", .bool true)]⟩ := by
  unfold argsOk; rw [signature?_of (id := "object.__init__") (n := ['_', '_', 't', 'i', 'n', 'i', '_', '_']) (o := ['t', 'c', 'e', 'j', 'b', 'o']) (by kernel_rfl) F.owner_object]; kernel_rfl
section
variable {prog : Program} {w : World} {A : Around} {E : Value → Shared → Prop} {s : Shared}
/-- a built-in class called with keywords -/
theorem typeKw_meets {T newId initId : String} {Bn Bi : Builtin} {args : List Value} {kw : List (Str × Value)} {S : Spec} {Q Q₁ : Value → Shared → Prop} (ft : TypeCalled T newId initId)
    (hct : checkTypeCall T ⟨args, kw⟩ = pure ()) (hcn : checkBuiltinCall newId ⟨.type T :: args, kw⟩ = pure ())
    (entryN : entryFor table newId = some Bn) (entryI : entryFor table initId = some Bi) (g : Meets (Bn ⟨.type T :: args, kw⟩) S)
    (h : S A.in1 (wants Q₁ E) s)
    (hnext : ∀ obj s₁, Q₁ obj s₁ → s₁.TypeIs obj T ∧ argsOk initId ⟨obj :: args, kw⟩ ∧ ∃ Si, Meets (Bi ⟨obj :: args, kw⟩) Si ∧ Si A.in1 (wants (fun r s₂ => r = .none ∧ Q obj s₂) E) s₁) :
    wpAny (model prog w) A (call (.type T) args kw) Q E s := by
  obtain ⟨c, tl, hm⟩ := ft.mro
  have e1 := ft.made
  have e2 := ft.sub
  refine wpAny_call (codeAny_of_tree ?_)
  show wpAny _ _ (callAny (.type T) _) _ _ _
  refine wpAny_pure ⟨Code.quiet_builtin _ (by decide +kernel), codeAny_builtin F.entry_type_call ?_⟩
  rw [Around.under_plain (weight_type_call_type T args kw) (units_type_call_type T args kw)]
  have e3 := ft.notType
  have e4 := ft.canCreate
  repeat (any_goals (first | assumption | wp_step))
  refine codeAny_mono (codeAny_call_builtin ft.plain entryN (wpAny_of_eq hcn (g prog w A.in1 _ s h))) fun rz sz hz => ?_
  cases rz with
  | error e => exact hz
  | ok fl =>
    cases fl with
    | ret obj =>
      obtain ⟨z1, z2, Si, z3, z4⟩ := hnext _ _ hz
      have z5 := ft.init.lookup
      have z6 := ft.init.bind obj
      repeat (any_goals (first | assumption | wp_step))
      refine codeAny_mono (codeAny_call_builtin ft.init.plain entryI (ft.init.check _ _ _ _ _ _ _ _ z1 z2 (z3 prog w A.in1 _ sz z4))) fun ry sy hy => ?_
      cases ry with
      | error e => exact hy
      | ok fy =>
        cases fy with
        | ret r =>
          obtain ⟨rfl, hq⟩ := hy
          repeat (any_goals (first | assumption | wp_step))
        | _ => exact hy.elim
    | _ => exact hz.elim
theorem objInit_kw {T newId : String} {self : Value} {rest : List Value} {kw : List (Str × Value)} (hl : typeLookup (.type T) "__init__" = pure (some (.builtin "object.__init__")))
    (hm : Bind.madeBy (.type T) = pure (some newId)) (hne : (some newId != some "object.__new__") = true) :
    Meets (Builtin.«object.__init__» ⟨self :: rest, kw⟩) (fun _ R s => s.TypeIs self T ∧ R (.ok (.ret .none)) s) := by
  refine Meets.of_wp fun prog w A R s hs => ?_
  obtain ⟨hT, hq⟩ := hs
  cases rest with
  | nil => 
    cases kw with
    | nil => exact wpAny_pure ⟨_, rfl, hq⟩
    | cons k kw =>
      repeat (any_goals (first | assumption | wp_step))
      exact ⟨_, rfl, hq⟩
  | cons a rest =>
    repeat (any_goals (first | assumption | wp_step))
    exact ⟨_, rfl, hq⟩
end
abbrev zsK : List (Str × Value) := [("strict", .bool true)]
/-- zip's own object, strict -/
abbrev IsZs (h : Heap) (z TI TO : Addr) (f0 : Value) (b : Bool) : Prop :=
  h.get? z = some { cls := .type "zip", dict := none, data := .fields #[f0, .bool b, .bool true, .ref TI, .ref TO], slots := #[] }
abbrev zsH5 (h : Heap) (l1 l2 : Addr) : Heap := (RZ.zipTH4 h l1 l2).push { cls := .type "zip", data := .fields #[.none, .bool false, .bool true, .ref (RZ.zipTH2 h l1 l2).objs.size, .ref (RZ.zipTH3 h l1 l2).objs.size] }
theorem zs_meets (l1 l2 : Addr) (xs ys : Array Value) :
    Meets (Builtin.«zip.__new__» ⟨[.type "zip", .ref l1, .ref l2], zsK⟩) (fun _ R s => s.heap.IsTuple l1 xs ∧ s.heap.IsTuple l2 ys ∧
      R (.ok (.ret (.ref (RZ.zipTH4 s.heap l1 l2).objs.size))) { s with heap := zsH5 s.heap l1 l2 }) :=
  .of_wp fun prog w A R s h => by
    obtain ⟨hp, g, d, tk, os⟩ := s; obtain ⟨h1, h2, h⟩ := h
    have hsub := sub_zip
    have t1 : Heap.IsTuple (Shared.heap ⟨hp, g, d, tk, os⟩) l1 xs := h1
    have t2 : Heap.IsTuple (Shared.heap ⟨hp.push { cls := .type "tuple_iterator", data := .fields #[.ref l1, .int 0 0] }, g, d, tk, os⟩) l2 ys := Heap.IsTuple.push h2 _
    wp_walk using wpAny_pyIter_tuple t1, wpAny_pyIter_tuple t2
    exact ⟨_, rfl, h⟩
end L2.DL
namespace L2.DL
open PySem
variable [Tbs]
section
variable {prog : Program} {w : World} {A : Around} {E : Value → Shared → Prop} {s : Shared}
theorem orEnd_item {it l : Addr} {i : Nat} {items : Array Value} {x : Value} {Q : Option Value → Shared → Prop} (h1 : s.heap.IsTupleIter it l i) (h2 : s.heap.IsTuple l items) (hx : items[i]? = some x)
    (hQ : ∀ h', h'.IsTupleIter it l (i + 1) → Heap.SameBut it s.heap h' → Q (some x) { s with heap := h' }) : wpAny (model prog w) A (Builtin.SmallTypes.nextOrEnd (.ref it)) Q E s := by
  unfold Builtin.SmallTypes.nextOrEnd
  exact wpAny_bind (wpAny_attempt (RZ.nextOf_tuple_item h1 h2 hx fun h' a b => wpAny_pure (hQ h' a b)))
theorem orEnd_end {it l : Addr} {i : Nat} {items : Array Value} {Q : Option Value → Shared → Prop} (hh : A.handled = none) (h1 : s.heap.IsTupleIter it l i) (h2 : s.heap.IsTuple l items) (hx : items[i]? = none)
    (hQ : ∀ h', Heap.ExtBut it s.heap h' → Q none { s with heap := h' }) : wpAny (model prog w) A (Builtin.SmallTypes.nextOrEnd (.ref it)) Q E s := by
  unfold Builtin.SmallTypes.nextOrEnd
  refine wpAny_bind (wpAny_attempt (RZ.nextOf_tuple_end hh h1 h2 hx fun h' e k he => ?_))
  obtain ⟨o, ho, hc⟩ := he
  refine wpAny_bind (wpAny_isInstance (T := "StopIteration") (b := true) ⟨o, ho, hc⟩ isSubtype_stop ?_)
  exact wpAny_pure (hQ h' k)
/-- the first pair: the zip's own tuple is free -/
theorem zs_first {z TI TO i1 i2 l1 l2 : Addr} {k1 k2 : Nat} {b0 : Bool} {xs ys : Array Value} {x y a b : Value} {Q : Value → Shared → Prop} (D : ZipApart z TI TO i1 i2 l1 l2)
    (hz : IsZs s.heap z TI TO .none b0) (hTI : IsPair s.heap TI (.ref i1) (.ref i2)) (hTO : IsPair s.heap TO a b)
    (h1 : s.heap.IsTupleIter i1 l1 k1) (h2 : s.heap.IsTupleIter i2 l2 k2) (g1 : s.heap.IsTuple l1 xs) (g2 : s.heap.IsTuple l2 ys) (hx : xs[k1]? = some x) (hy : ys[k2]? = some y)
    (hQ : ∀ h', IsZs h' z TI TO (rawInt s.heap.objs.size) false → IsPair h' TO x y → h'.IsTupleIter i1 l1 (k1 + 1) → h'.IsTupleIter i2 l2 (k2 + 1) → IsPair h' s.heap.objs.size x y → h'.objs.size = s.heap.objs.size + 1 →
      (∀ c o, c ≠ z → c ≠ TO → c ≠ i1 → c ≠ i2 → s.heap.get? c = some o → h'.get? c = some o) → Q (.ref s.heap.objs.size) { s with heap := h' }) :
    wpAny (model prog w) A (Builtin.«zip.__next__» ⟨[.ref z], []⟩) (fun fin s' => ∃ v, fin = .done (.ret v) ∧ Q v s') E s := by
  show wpAny _ _ (field (.ref z) 2 >>= _) _ _ _
  refine wpAny_bind (wpAny_field hz rfl (x := .bool true) rfl ?_)
  show wpAny _ _ (field (.ref z) 3 >>= _) _ _ _
  refine wpAny_bind (wpAny_field hz rfl (x := .ref TI) rfl ?_)
  refine wpAny_bind (wpAny_seqItems hTI rfl ?_)
  show wpAny _ _ (Builtin.SmallTypes.ownedTupleIsFree (.ref z) >>= _) _ _ _
  refine wpAny_bind ?_
  unfold Builtin.SmallTypes.ownedTupleIsFree
  refine wpAny_bind (wpAny_field hz rfl (x := .none) rfl (wpAny_pure ?_))
  simp only [if_true]
  refine wpAny_bind (wpAny_rule ?_)
  refine wpAny_bind (wpAny_field hz rfl (x := .ref TO) rfl ?_)
  refine wpAny_bind (wpAny_setField_rec hz (by simp) fun h₁ hz₁ s1 => ?_)
  replace hz₁ : IsZs h₁ z TI TO .ellipsis b0 := hz₁
  refine wpAny_bind ?_
  simp only [List.zipIdx_cons, List.zipIdx_nil, List.forIn_cons, List.forIn_nil]
  refine wpAny_bind (wpAny_bind (wpAny_onRaise ?_))
  show wpAny _ _ (Builtin.SmallTypes.nextOrEnd (.ref i1)) _ _ _
  refine orEnd_item (h1.extBut s1.extBut D.i1z) (g1.extBut s1.extBut D.l1z) hx fun h₂ h1₂ s2 => ?_
  have hTO₂ : IsPair h₂ TO a b := s2.extBut _ _ D.TOi1 (s1.extBut _ _ D.TOz hTO)
  refine wpAny_bind (wpAny_seqItems hTO₂ rfl ?_)
  refine wpAny_bind (wpAny_updateSeq_pair hTO₂ fun h₃ hTO₃ s3 => ?_)
  replace hTO₃ : IsPair h₃ TO x b := hTO₃
  refine wpAny_bind (wpAny_letGo (wpAny_pure ?_))
  refine wpAny_bind (wpAny_bind (wpAny_onRaise ?_))
  show wpAny _ _ (Builtin.SmallTypes.nextOrEnd (.ref i2)) _ _ _
  refine orEnd_item (((h2.extBut s1.extBut D.i2z).extBut s2.extBut D.i12.symm).extBut s3.extBut D.TOi2.symm)
    (((g2.extBut s1.extBut D.l2z).extBut s2.extBut D.l2i1).extBut s3.extBut D.l2TO) hy fun h₄ h2₄ s4 => ?_
  have hTO₄ : IsPair h₄ TO x b := s4.extBut _ _ D.TOi2 hTO₃
  refine wpAny_bind (wpAny_seqItems hTO₄ rfl ?_)
  refine wpAny_bind (wpAny_updateSeq_pair hTO₄ fun h₅ hTO₅ s5 => ?_)
  replace hTO₅ : IsPair h₅ TO x y := hTO₅
  refine wpAny_bind (wpAny_letGo (wpAny_pure (wpAny_pure ?_)))
  refine wpAny_bind (wpAny_seqItems hTO₅ rfl ?_)
  refine wpAny_bind (wpAny_newTuple ?_)
  have sz5 : h₅.objs.size = s.heap.objs.size := by rw [s5.1, s4.1, s3.1, s2.1, s1.1]
  have hz₅ : IsZs h₅ z TI TO .ellipsis b0 := s5.extBut _ _ D.TOz.symm (s4.extBut _ _ D.i2z.symm (s3.extBut _ _ D.TOz.symm (s2.extBut _ _ D.i1z.symm hz₁)))
  have hk₅ : ∀ c o, c ≠ z → c ≠ TO → c ≠ i1 → c ≠ i2 → s.heap.get? c = some o → h₅.get? c = some o := fun c o c1 c2 c3 c4 e =>
    s5.extBut _ _ c2 (s4.extBut _ _ c4 (s3.extBut _ _ c2 (s2.extBut _ _ c3 (s1.extBut _ _ c1 e))))
  have h1₅ : h₅.IsTupleIter i1 l1 (k1 + 1) := ((h1₂.extBut s3.extBut D.TOi1.symm).extBut s4.extBut D.i12).extBut s5.extBut D.TOi1.symm
  have h2₅ : h₅.IsTupleIter i2 l2 (k2 + 1) := h2₄.extBut s5.extBut D.TOi2.symm
  have zlt : z < h₅.objs.size := Heap.lt_size hz₅
  show wpAny _ _ (Builtin.SmallTypes.ownedTupleHandOut (.ref z) (.ref h₅.objs.size) >>= _) _ _ _
  refine wpAny_bind ?_
  unfold Builtin.SmallTypes.ownedTupleHandOut
  have hz₆ : IsZs (h₅.push { cls := .type "tuple", data := .seq #[x, y] }) z TI TO .ellipsis b0 := Heap.get?_push_of_some _ hz₅
  refine wpAny_bind (wpAny_setField_rec hz₆ (by simp) fun h₇ hz₇ s7 => ?_)
  replace hz₇ : IsZs h₇ z TI TO (rawInt h₅.objs.size) b0 := hz₇
  refine wpAny_setField_rec hz₇ (by simp) fun h₈ hz₈ s8 => ?_
  replace hz₈ : IsZs h₈ z TI TO (rawInt h₅.objs.size) false := hz₈
  have up : ∀ c o, c ≠ z → h₅.get? c = some o → h₈.get? c = some o := fun c o c1 e => s8.extBut _ _ c1 (s7.extBut _ _ c1 (Heap.get?_push_of_some _ e))
  have hT₈ : IsPair h₈ h₅.objs.size x y := s8.extBut _ _ (Nat.ne_of_gt zlt) (s7.extBut _ _ (Nat.ne_of_gt zlt) (Heap.get?_push_size _ rfl))
  have sz8 : h₈.objs.size = h₅.objs.size + 1 := by rw [s8.1, s7.1, Heap.size_push]
  rw [sz5] at hz₈ hT₈ sz8
  refine wpAny_pure ⟨_, rfl, ?_⟩
  show Q (.ref h₅.objs.size) _
  rw [sz5]
  exact hQ h₈ hz₈ (up _ _ D.TOz hTO₅) (h1₅.at fun o e => up _ o D.i1z e) (h2₅.at fun o e => up _ o D.i2z e) hT₈ sz8 fun c o c1 c2 c3 c4 e => up c o c1 (hk₅ c o c1 c2 c3 c4 e)
end
end L2.DL
namespace L2.DL
open PySem
variable [Tbs]
section
variable {prog : Program} {w : World} {A : Around} {E : Value → Shared → Prop} {s : Shared}
theorem loadAlive_ok {a : Addr} {Q : Option Obj → Shared → Prop} (h : Q (s.heap.get? a) s) : wpAny (model prog w) A (loadIfAlive a) Q E s := by
  intro Γ p _
  unfold loadIfAlive
  rw [PySem.Sem.wp_loadIfAlive]
  exact h
theorem zs_free {z TI TO T1 : Addr} {b0 : Bool} {oT : Obj} (hz : IsZs s.heap z TI TO (rawInt T1) b0) (hT1 : s.heap.get? T1 = some oT) :
    wpAny (model prog w) A (Builtin.SmallTypes.ownedTupleIsFree (.ref z)) (fun b s' => b = false ∧ ∃ h', s' = { s with heap := h' } ∧ IsZs h' z TI TO (rawInt T1) true ∧ h'.objs.size = s.heap.objs.size ∧ ∀ c o, c ≠ z → s.heap.get? c = some o → h'.get? c = some o) E s := by
  unfold Builtin.SmallTypes.ownedTupleIsFree
  refine wpAny_bind (wpAny_field hz rfl (x := rawInt T1) rfl ?_)
  show wpAny _ _ (loadIfAlive (Int.toNat (T1 : Nat)) >>= _) _ _ _
  rw [Int.toNat_natCast]
  refine wpAny_bind (loadAlive_ok ?_)
  rw [hT1]
  simp only [Option.isNone_some, Bool.false_eq_true, if_false]
  refine wpAny_bind (wpAny_field hz rfl (x := .bool b0) rfl ?_)
  cases b0 with
  | true =>
    rw [if_neg (by decide)]
    exact wpAny_bind (wpAny_pure (wpAny_pure ⟨rfl, s.heap, rfl, hz, rfl, fun c o _ e => e⟩))
  | false =>
    rw [if_pos (by decide)]
    refine wpAny_bind (wpAny_setField_rec hz (by simp) fun h₁ hz₁ s1 => wpAny_pure ⟨rfl, h₁, rfl, hz₁, s1.1, fun c o c1 e => s1.extBut _ _ c1 e⟩)
/-- a later pair: the zip's first tuple lives on -/
theorem zs_later {z TI TO i1 i2 l1 l2 T1 : Addr} {k1 k2 : Nat} {b0 : Bool} {xs ys : Array Value} {x y : Value} {oT : Obj} {Q : Value → Shared → Prop} (D : ZipApart z TI TO i1 i2 l1 l2)
    (hz : IsZs s.heap z TI TO (rawInt T1) b0) (hT1 : s.heap.get? T1 = some oT) (hTI : IsPair s.heap TI (.ref i1) (.ref i2))
    (h1 : s.heap.IsTupleIter i1 l1 k1) (h2 : s.heap.IsTupleIter i2 l2 k2) (g1 : s.heap.IsTuple l1 xs) (g2 : s.heap.IsTuple l2 ys) (hx : xs[k1]? = some x) (hy : ys[k2]? = some y)
    (hQ : ∀ h', IsZs h' z TI TO (rawInt T1) true → h'.IsTupleIter i1 l1 (k1 + 1) → h'.IsTupleIter i2 l2 (k2 + 1) → IsPair h' s.heap.objs.size x y → h'.objs.size = s.heap.objs.size + 1 →
      (∀ c o, c ≠ z → c ≠ i1 → c ≠ i2 → s.heap.get? c = some o → h'.get? c = some o) → Q (.ref s.heap.objs.size) { s with heap := h' }) :
    wpAny (model prog w) A (Builtin.«zip.__next__» ⟨[.ref z], []⟩) (fun fin s' => ∃ v, fin = .done (.ret v) ∧ Q v s') E s := by
  show wpAny _ _ (field (.ref z) 2 >>= _) _ _ _
  refine wpAny_bind (wpAny_field hz rfl (x := .bool true) rfl ?_)
  show wpAny _ _ (field (.ref z) 3 >>= _) _ _ _
  refine wpAny_bind (wpAny_field hz rfl (x := .ref TI) rfl ?_)
  refine wpAny_bind (wpAny_seqItems hTI rfl ?_)
  show wpAny _ _ (Builtin.SmallTypes.ownedTupleIsFree (.ref z) >>= _) _ _ _
  refine wpAny_bind (wpAny_mono (zs_free hz hT1) (fun b s' hb => ?_) fun _ _ e => e)
  obtain ⟨rfl, h₁, rfl, hz₁, sz1, kp1⟩ := hb
  simp only [Bool.false_eq_true, if_false]
  refine wpAny_bind ?_
  rw [← Array.forIn_toList]
  simp only [List.forIn_cons, List.forIn_nil]
  refine wpAny_bind (wpAny_bind (wpAny_holding ?_))
  show wpAny _ _ (Builtin.SmallTypes.nextOrEnd (.ref i1)) _ _ _
  have h1' : h₁.IsTupleIter i1 l1 k1 := h1.at fun o e => kp1 _ o D.i1z e
  have h2' : h₁.IsTupleIter i2 l2 k2 := h2.at fun o e => kp1 _ o D.i2z e
  have g1' : h₁.IsTuple l1 xs := g1.at fun o e => kp1 _ o D.l1z e
  have g2' : h₁.IsTuple l2 ys := g2.at fun o e => kp1 _ o D.l2z e
  refine orEnd_item (s := { s with heap := h₁ }) h1' g1' hx fun h₂ h1₂ s2 => ?_
  refine wpAny_pure ?_
  refine wpAny_bind (wpAny_bind (wpAny_holding ?_))
  show wpAny _ _ (Builtin.SmallTypes.nextOrEnd (.ref i2)) _ _ _
  refine orEnd_item (s := { s with heap := h₂ }) (h2'.extBut s2.extBut D.i12.symm) (g2'.extBut s2.extBut D.l2i1) hy fun h₃ h2₃ s3 => ?_
  refine wpAny_pure (wpAny_pure ?_)
  refine wpAny_bind (wpAny_newTuple (items := [x, y]) (hsz := by show (2 : Nat) ≤ sizeLine; decide) ?_)
  have sz3 : h₃.objs.size = s.heap.objs.size := by rw [s3.1, s2.1, sz1]
  have kp : ∀ c o, c ≠ z → c ≠ i1 → c ≠ i2 → s.heap.get? c = some o → (h₃.push { cls := .type "tuple", data := .seq #[x, y] }).get? c = some o := fun c o c1 c2 c3 e =>
    Heap.get?_push_of_some _ (s3.extBut _ _ c3 (s2.extBut _ _ c2 (kp1 _ _ c1 e)))
  refine wpAny_pure ⟨_, rfl, ?_⟩
  show Q (.ref h₃.objs.size) _
  rw [sz3]
  have hp : IsPair (h₃.push { cls := .type "tuple", data := .seq #[x, y] }) h₃.objs.size x y := Heap.get?_push_size _ rfl
  rw [sz3] at hp
  exact hQ _ (Heap.get?_push_of_some _ (s3.extBut _ _ D.i2z.symm (s2.extBut _ _ D.i1z.symm hz₁))) ((h1₂.extBut s3.extBut D.i12).at fun o e => Heap.get?_push_of_some _ e) (h2₃.at fun o e => Heap.get?_push_of_some _ e) hp (by rw [Heap.size_push, sz3]) kp
end
end L2.DL
namespace L2.DL
open PySem
variable [Tbs]
section
variable {prog : Program} {w : World} {A : Around} {E : Value → Shared → Prop} {s : Shared}
theorem stop_ok {Q : Fin → Shared → Prop} (hh : A.handled = none) (hE : ∀ h' e, (∀ b o, s.heap.get? b = some o → h'.get? b = some o) → (∃ o, h'.get? e = some o ∧ o.cls = .type "StopIteration") → E (.ref e) { s with heap := h' }) :
    wpAny (model prog w) A (Builtin.SmallTypes.stopIteration : Sem Fin) Q E s := by
  show wpAny _ _ (newExc (.type "StopIteration") [] >>= _) _ _ _
  refine wpAny_bind ?_
  simp only [newExc, newTuple]
  refine wpAny_bind (wpAny_newObj_type ?_ (by size_fits))
  refine wpAny_bind (m := firstArgMember _ _) (wpAny_of_eq (a := Value.none) (by first | rfl | (simp only [firstArgMember]; rfl)) ?_)
  refine wpAny_newObj_type ?_ (by size_fits)
  simp only [raiseNew]
  refine wpAny_bind (wpAny_handled ?_)
  rw [hh]
  first
    | refine wpAny_throw ?_
    | refine wpAny_bind (wpAny_pure (wpAny_throw ?_))
  exact hE _ _ (fun b o hb => Heap.get?_push_of_some _ (Heap.get?_push_of_some _ hb)) ⟨_, Heap.get?_push_size _ rfl, rfl⟩
/-- both ended, the zip's own tuple free -/
theorem zs_end0 {z TI TO i1 i2 l1 l2 : Addr} {k1 k2 : Nat} {b0 : Bool} {xs ys : Array Value} {Q : Fin → Shared → Prop} (hh : A.handled = none) (D : ZipApart z TI TO i1 i2 l1 l2)
    (hz : IsZs s.heap z TI TO .none b0) (hTI : IsPair s.heap TI (.ref i1) (.ref i2))
    (h1 : s.heap.IsTupleIter i1 l1 k1) (h2 : s.heap.IsTupleIter i2 l2 k2) (g1 : s.heap.IsTuple l1 xs) (g2 : s.heap.IsTuple l2 ys) (hx : xs[k1]? = none) (hy : ys[k2]? = none)
    (hE : ∀ h' e, (∀ c o, c ≠ z → c ≠ i1 → c ≠ i2 → s.heap.get? c = some o → h'.get? c = some o) → (∃ o, h'.get? e = some o ∧ o.cls = .type "StopIteration") → E (.ref e) { s with heap := h' }) :
    wpAny (model prog w) A (Builtin.«zip.__next__» ⟨[.ref z], []⟩) Q E s := by
  show wpAny _ _ (field (.ref z) 2 >>= _) _ _ _
  refine wpAny_bind (wpAny_field hz rfl (x := .bool true) rfl ?_)
  show wpAny _ _ (field (.ref z) 3 >>= _) _ _ _
  refine wpAny_bind (wpAny_field hz rfl (x := .ref TI) rfl ?_)
  refine wpAny_bind (wpAny_seqItems hTI rfl ?_)
  show wpAny _ _ (Builtin.SmallTypes.ownedTupleIsFree (.ref z) >>= _) _ _ _
  refine wpAny_bind ?_
  unfold Builtin.SmallTypes.ownedTupleIsFree
  refine wpAny_bind (wpAny_field hz rfl (x := .none) rfl (wpAny_pure ?_))
  simp only [if_true]
  refine wpAny_bind (wpAny_rule ?_)
  refine wpAny_bind (wpAny_field hz rfl (x := .ref TO) rfl ?_)
  refine wpAny_bind (wpAny_setField_rec hz (by simp) fun h₁ hz₁ s1 => ?_)
  replace hz₁ : IsZs h₁ z TI TO .ellipsis b0 := hz₁
  refine wpAny_bind ?_
  simp only [List.zipIdx_cons, List.zipIdx_nil, List.forIn_cons, List.forIn_nil]
  refine wpAny_bind (wpAny_bind (wpAny_onRaise ?_))
  show wpAny _ _ (Builtin.SmallTypes.nextOrEnd (.ref i1)) _ _ _
  refine orEnd_end hh (h1.extBut s1.extBut D.i1z) (g1.extBut s1.extBut D.l1z) hx fun h₂ s2 => ?_
  have hz₂ : IsZs h₂ z TI TO .ellipsis b0 := s2 _ _ D.i1z.symm hz₁
  refine wpAny_bind (wpAny_setField_rec hz₂ (by simp) fun h₃ hz₃ s3 => ?_)
  refine wpAny_bind ?_
  show wpAny _ _ (forIn [(Value.ref i2, 1)] PUnit.unit _ >>= _) _ _ _
  simp only [List.forIn_cons, List.forIn_nil]
  refine wpAny_bind (wpAny_bind ?_)
  refine wpAny_bind (orEnd_end hh (((h2.extBut s1.extBut D.i2z).extBut s2 D.i12.symm).extBut s3.extBut D.i2z) (((g2.extBut s1.extBut D.l2z).extBut s2 D.l2i1).extBut s3.extBut D.l2z) hy fun h₄ s4 => ?_)
  rw [if_neg (by decide)]
  refine wpAny_pure (wpAny_pure (wpAny_bind (wpAny_rule ?_)))
  refine stop_ok hh fun h₅ e kp he => hE h₅ e (fun c o c1 c2 c3 q => kp _ _ (s4 _ _ c3 (s3.extBut _ _ c1 (s2 _ _ c2 (s1.extBut _ _ c1 q))))) he
/-- both ended, the zip's first tuple alive -/
theorem zs_endL {z TI TO i1 i2 l1 l2 T1 : Addr} {k1 k2 : Nat} {b0 : Bool} {xs ys : Array Value} {oT : Obj} {Q : Fin → Shared → Prop} (hh : A.handled = none) (D : ZipApart z TI TO i1 i2 l1 l2)
    (hz : IsZs s.heap z TI TO (rawInt T1) b0) (hT1 : s.heap.get? T1 = some oT) (hTI : IsPair s.heap TI (.ref i1) (.ref i2))
    (h1 : s.heap.IsTupleIter i1 l1 k1) (h2 : s.heap.IsTupleIter i2 l2 k2) (g1 : s.heap.IsTuple l1 xs) (g2 : s.heap.IsTuple l2 ys) (hx : xs[k1]? = none) (hy : ys[k2]? = none)
    (hE : ∀ h' e, (∀ c o, c ≠ z → c ≠ i1 → c ≠ i2 → s.heap.get? c = some o → h'.get? c = some o) → (∃ o, h'.get? e = some o ∧ o.cls = .type "StopIteration") → E (.ref e) { s with heap := h' }) :
    wpAny (model prog w) A (Builtin.«zip.__next__» ⟨[.ref z], []⟩) Q E s := by
  show wpAny _ _ (field (.ref z) 2 >>= _) _ _ _
  refine wpAny_bind (wpAny_field hz rfl (x := .bool true) rfl ?_)
  show wpAny _ _ (field (.ref z) 3 >>= _) _ _ _
  refine wpAny_bind (wpAny_field hz rfl (x := .ref TI) rfl ?_)
  refine wpAny_bind (wpAny_seqItems hTI rfl ?_)
  show wpAny _ _ (Builtin.SmallTypes.ownedTupleIsFree (.ref z) >>= _) _ _ _
  refine wpAny_bind (wpAny_mono (zs_free hz hT1) (fun b s' hb => ?_) fun _ _ e => e)
  obtain ⟨rfl, h₁, rfl, hz₁, sz1, kp1⟩ := hb
  simp only [Bool.false_eq_true, if_false]
  refine wpAny_bind ?_
  rw [← Array.forIn_toList]
  simp only [List.forIn_cons, List.forIn_nil]
  refine wpAny_bind (wpAny_bind (wpAny_holding ?_))
  show wpAny _ _ (Builtin.SmallTypes.nextOrEnd (.ref i1)) _ _ _
  have h1' : h₁.IsTupleIter i1 l1 k1 := h1.at fun o e => kp1 _ o D.i1z e
  have h2' : h₁.IsTupleIter i2 l2 k2 := h2.at fun o e => kp1 _ o D.i2z e
  have g1' : h₁.IsTuple l1 xs := g1.at fun o e => kp1 _ o D.l1z e
  have g2' : h₁.IsTuple l2 ys := g2.at fun o e => kp1 _ o D.l2z e
  refine orEnd_end (s := { s with heap := h₁ }) hh h1' g1' hx fun h₂ s2 => ?_
  refine wpAny_bind ?_
  show wpAny _ _ (forIn [(Value.ref i2, 1)] PUnit.unit _ >>= _) _ _ _
  simp only [List.forIn_cons, List.forIn_nil]
  refine wpAny_bind (wpAny_bind ?_)
  refine wpAny_bind (orEnd_end hh (h2'.extBut s2 D.i12.symm) (g2'.extBut s2 D.l2i1) hy fun h₄ s4 => ?_)
  rw [if_neg (by decide)]
  refine wpAny_pure (wpAny_pure (wpAny_bind (wpAny_rule ?_)))
  refine stop_ok hh fun h₅ e kp he => hE h₅ e (fun c o c1 c2 c3 q => kp _ _ (s4 _ _ c3 (s2 _ _ c2 (kp1 _ _ c1 q)))) he
end
end L2.DL
/-! DLr: list(zip(a, b, strict=True)) of two tuples -/
/-! zip's steps told alike; the call of it -/
namespace L2.DL
open PySem
variable [Tbs]
/-- the zip at its i-th turn -/
structure ZsSt (h : Heap) (S z TI TO i1 i2 l1 l2 : Addr) (xs ys : Array Value) (i : Nat) : Prop where
  zip : ∃ f0 b, IsZs h z TI TO f0 b ∧ (f0 = .none ∨ ∃ T1 oT, f0 = rawInt (T1 : Nat) ∧ h.get? T1 = some oT ∧ T1 ≠ z ∧ T1 ≠ i1 ∧ T1 ≠ i2 ∧ T1 ≠ S)
  ti : IsPair h TI (.ref i1) (.ref i2)
  to : ∃ a b, IsPair h TO a b
  it1 : h.IsTupleIter i1 l1 i
  it2 : h.IsTupleIter i2 l2 i
  t1 : h.IsTuple l1 xs
  t2 : h.IsTuple l2 ys
theorem ZsSt.keeps {h h' : Heap} {S z TI TO i1 i2 l1 l2 : Addr} {xs ys : Array Value} {i : Nat} (st : ZsSt h S z TI TO i1 i2 l1 l2 xs ys i) (k : ∀ c o, c ≠ S → h.get? c = some o → h'.get? c = some o)
    (n1 : z ≠ S) (n2 : TI ≠ S) (n3 : TO ≠ S) (n4 : i1 ≠ S) (n5 : i2 ≠ S) (n6 : l1 ≠ S) (n7 : l2 ≠ S) : ZsSt h' S z TI TO i1 i2 l1 l2 xs ys i := by
  obtain ⟨⟨f0, b, e1, e2⟩, e3, ⟨x, y, e4⟩, e5, e6, e7, e8⟩ := st
  refine ⟨⟨f0, b, k _ _ n1 e1, ?_⟩, k _ _ n2 e3, ⟨x, y, k _ _ n3 e4⟩, e5.at fun o e => k _ o n4 e, e6.at fun o e => k _ o n5 e, e7.at fun o e => k _ o n6 e, e8.at fun o e => k _ o n7 e⟩
  rcases e2 with e2 | ⟨T1, oT, q1, q2, q3⟩
  · exact .inl e2
  · exact .inr ⟨T1, oT, q1, k _ _ q3.2.2.2 q2, q3⟩
section
variable {prog : Program} {w : World} {A : Around} {E : Value → Shared → Prop} {s : Shared}
theorem zs_step {S z TI TO i1 i2 l1 l2 : Addr} {i : Nat} {xs ys : Array Value} {x y : Value} {Q : Option Value → Shared → Prop} (D : ZipApart z TI TO i1 i2 l1 l2)
    (st : ZsSt s.heap S z TI TO i1 i2 l1 l2 xs ys i) (hS : S < s.heap.objs.size) (hx : xs[i]? = some x) (hy : ys[i]? = some y)
    (hQ : ∀ h', ZsSt h' S z TI TO i1 i2 l1 l2 xs ys (i + 1) → IsPair h' s.heap.objs.size x y →
      (∀ c o, c ≠ z → c ≠ TO → c ≠ i1 → c ≠ i2 → s.heap.get? c = some o → h'.get? c = some o) → Q (some (.ref s.heap.objs.size)) { s with heap := h' }) :
    wpAny (model prog w) A (pyNext (.ref z)) Q E s := by
  obtain ⟨⟨f0, b, hz, hf⟩, hTI, ⟨p, q, hTO⟩, h1, h2, g1, g2⟩ := st
  have hT : s.TypeIs (.ref z) "zip" := ⟨_, hz, rfl⟩
  unfold pyNext
  refine wpAny_bind (wpAny_attempt (wpAny_callSpecial?_slot (name := Str.ofString "__next__") hT F.slot_zip_next
    (wpAny_call_entry F.slot_zip_next hT F.entry_zip_next ?_ (F.args_zip_next_1 _))))
  have lt : ∀ {c o}, s.heap.get? c = some o → s.heap.objs.size ≠ c := fun e => Nat.ne_of_gt (Heap.lt_size e)
  have n1 : s.heap.objs.size ≠ i1 := by obtain ⟨_, e, _⟩ := h1; exact lt e
  have n2 : s.heap.objs.size ≠ i2 := by obtain ⟨_, e, _⟩ := h2; exact lt e
  rcases hf with rfl | ⟨T1, oT, rfl, hT1, m1, m2, m3, m4⟩
  · refine zs_first D hz hTI hTO h1 h2 g1 g2 hx hy fun h' a1 a2 a3 a4 a5 a6 a7 => wpAny_pure (hQ h' ?_ a5 a7)
    exact ⟨⟨_, _, a1, .inr ⟨_, _, rfl, a5, lt hz, n1, n2, Nat.ne_of_gt hS⟩⟩, a7 _ _ D.TIz D.TITO D.TIi1 D.TIi2 hTI, ⟨_, _, a2⟩, a3, a4,
        g1.at fun o e => a7 _ o D.l1z D.l1TO D.l1i1 D.l1i2 e, g2.at fun o e => a7 _ o D.l2z D.l2TO D.l2i1 D.l2i2 e⟩
  · refine zs_later D hz hT1 hTI h1 h2 g1 g2 hx hy fun h' a1 a3 a4 a5 a6 a7 => wpAny_pure (hQ h' ?_ a5 fun c o c1 _ c3 c4 e => a7 c o c1 c3 c4 e)
    exact ⟨⟨_, _, a1, .inr ⟨T1, oT, rfl, a7 _ _ m1 m2 m3 hT1, m1, m2, m3, m4⟩⟩, a7 _ _ D.TIz D.TIi1 D.TIi2 hTI, ⟨_, _, a7 _ _ D.TOz D.TOi1 D.TOi2 hTO⟩, a3, a4,
        g1.at fun o e => a7 _ o D.l1z D.l1i1 D.l1i2 e, g2.at fun o e => a7 _ o D.l2z D.l2i1 D.l2i2 e⟩
theorem zs_stop {S z TI TO i1 i2 l1 l2 : Addr} {i : Nat} {xs ys : Array Value} {Q : Option Value → Shared → Prop} (hh : A.handled = none) (D : ZipApart z TI TO i1 i2 l1 l2)
    (st : ZsSt s.heap S z TI TO i1 i2 l1 l2 xs ys i) (hx : xs[i]? = none) (hy : ys[i]? = none)
    (hQ : ∀ h', (∀ c o, c ≠ z → c ≠ TO → c ≠ i1 → c ≠ i2 → s.heap.get? c = some o → h'.get? c = some o) → Q none { s with heap := h' }) :
    wpAny (model prog w) A (pyNext (.ref z)) Q E s := by
  obtain ⟨⟨f0, b, hz, hf⟩, hTI, ⟨p, q, hTO⟩, h1, h2, g1, g2⟩ := st
  have hT : s.TypeIs (.ref z) "zip" := ⟨_, hz, rfl⟩
  unfold pyNext
  refine wpAny_bind (wpAny_attempt (wpAny_callSpecial?_slot (name := Str.ofString "__next__") hT F.slot_zip_next
    (wpAny_call_entry F.slot_zip_next hT F.entry_zip_next ?_ (F.args_zip_next_1 _))))
  rcases hf with rfl | ⟨T1, oT, rfl, hT1, m1, m2, m3, m4⟩
  · refine zs_end0 hh D hz hTI h1 h2 g1 g2 hx hy fun h' e k he => ?_
    obtain ⟨o, ho, hc⟩ := he
    refine wpAny_bind (wpAny_isInstance (T := "StopIteration") (b := true) ⟨o, ho, hc⟩ isSubtype_stop ?_)
    exact wpAny_pure (hQ _ fun c o c1 _ c3 c4 e => k c o c1 c3 c4 e)
  · refine zs_endL hh D hz hT1 hTI h1 h2 g1 g2 hx hy fun h' e k he => ?_
    obtain ⟨o, ho, hc⟩ := he
    refine wpAny_bind (wpAny_isInstance (T := "StopIteration") (b := true) ⟨o, ho, hc⟩ isSubtype_stop ?_)
    exact wpAny_pure (hQ _ fun c o c1 _ c3 c4 e => k c o c1 c3 c4 e)
theorem call_zs {l1 l2 : Addr} {xs ys : Array Value} {Q : Value → Shared → Prop} (g1 : s.heap.IsTuple l1 xs) (g2 : s.heap.IsTuple l2 ys)
    (h : ∀ h', IsZs h' (s.heap.objs.size + 4) (s.heap.objs.size + 2) (s.heap.objs.size + 3) .none false → IsPair h' (s.heap.objs.size + 2) (.ref s.heap.objs.size) (.ref (s.heap.objs.size + 1)) →
      IsPair h' (s.heap.objs.size + 3) .none .none → h'.IsTupleIter s.heap.objs.size l1 0 → h'.IsTupleIter (s.heap.objs.size + 1) l2 0 → h'.objs.size = s.heap.objs.size + 5 →
      (∀ c o, s.heap.get? c = some o → h'.get? c = some o) → Q (.ref (s.heap.objs.size + 4)) { s with heap := h' }) :
    wpAny (model prog w) A (call (.type "zip") [.ref l1, .ref l2] zsK) Q E s := by
  refine typeKw_meets (Q₁ := fun obj s₁ => s₁.TypeIs obj "zip" ∧ Q obj s₁) F.called_zip (zs_type _ _) (zs_new _ _) F.entry_zip_new F.entry_object_init (zs_meets l1 l2 xs ys) ⟨g1, g2, ?_⟩ fun obj s₁ hq =>
    ⟨hq.1, zs_init _ _ _, _, objInit_kw F.called_zip.init.lookup F.called_zip.made (by decide), hq.1, rfl, hq.2⟩
  have z1 : (RZ.zipTH1 s.heap l1).objs.size = s.heap.objs.size + 1 := Heap.size_push ..
  have z2 : (RZ.zipTH2 s.heap l1 l2).objs.size = s.heap.objs.size + 2 := by rw [Heap.size_push, z1]
  have z3 : (RZ.zipTH3 s.heap l1 l2).objs.size = s.heap.objs.size + 3 := by rw [Heap.size_push, z2]
  have z4 : (RZ.zipTH4 s.heap l1 l2).objs.size = s.heap.objs.size + 4 := by rw [Heap.size_push, z3]
  have z5 : (zsH5 s.heap l1 l2).objs.size = s.heap.objs.size + 5 := by rw [Heap.size_push, z4]
  have q5 : (zsH5 s.heap l1 l2).get? (RZ.zipTH4 s.heap l1 l2).objs.size = some _ := Heap.get?_push_size _ rfl
  have q4 : (zsH5 s.heap l1 l2).get? (RZ.zipTH3 s.heap l1 l2).objs.size = some _ := Heap.get?_push_of_some _ (Heap.get?_push_size _ rfl)
  have q3 : (zsH5 s.heap l1 l2).get? (RZ.zipTH2 s.heap l1 l2).objs.size = some _ := Heap.get?_push_of_some _ (Heap.get?_push_of_some _ (Heap.get?_push_size _ rfl))
  have q2 : (zsH5 s.heap l1 l2).get? (RZ.zipTH1 s.heap l1).objs.size = some _ := Heap.get?_push_of_some _ (Heap.get?_push_of_some _ (Heap.get?_push_of_some _ (Heap.get?_push_size _ rfl)))
  have q1 : (zsH5 s.heap l1 l2).get? s.heap.objs.size = some _ := Heap.get?_push_of_some _ (Heap.get?_push_of_some _ (Heap.get?_push_of_some _ (Heap.get?_push_of_some _ (Heap.get?_push_size _ rfl))))
  show _ ∧ _
  rw [z2, z3, z4] at q5
  rw [z1, z2] at q3
  rw [z3] at q4
  rw [z1] at q2
  rw [z4]
  exact ⟨⟨_, q5, rfl⟩, h _ q5 q3 q4 ⟨_, q1, rfl, rfl⟩ ⟨_, q2, rfl, rfl⟩ z5 fun c o x =>
    Heap.get?_push_of_some _ (Heap.get?_push_of_some _ (Heap.get?_push_of_some _ (Heap.get?_push_of_some _ (Heap.get?_push_of_some _ x))))⟩
end
end L2.DL
/-! list(zip(a, b, strict=True)) of two tuples -/
namespace L2.DL
open PySem PySem.Spec PyProof.Rows
variable [Tbs]
inductive ZipG (H : Hp) : List V → List V → List V → Hp → Prop
  | nil : ZipG H [] [] [] H
  | snoc {xs ys outs : List V} {G : Hp} {x y : V} {T : Addr} : ZipG H xs ys outs G → G T = none → ZipG H (xs ++ [x]) (ys ++ [y]) (outs ++ [.ref T]) (upd G T (.tup [x, y]))
theorem upd3 {G : Hp} {S T : Addr} {l l' t : HO} (h : T ≠ S) : upd (upd (upd G S l) T t) S l' = upd (upd G T t) S l' := by
  funext b
  by_cases e : b = S
  · rw [e, upd_same, upd_same]
  · rw [upd_ne e, upd_ne e]
    by_cases e2 : b = T
    · rw [e2, upd_same, upd_same]
    · rw [upd_ne e2, upd_ne e2, upd_ne e]
theorem drainZ {X : Cx} {pins : List (Addr × Obj)} {σ : St} {A : Around} {z TI TO i1 i2 l1 l2 S : Addr} {H0 : Hp} {xs ys : List V} {us1 us2 : List Value} {R : Result → Shared → Prop} {res : Value} (hh : A.handled = none) (D : ZipApart z TI TO i1 i2 l1 l2)
    (r1 : Vals xs us1) (r2 : Vals ys us2) (hl : xs.length = ys.length) (hz : xs.length ≤ sizeLine) (n1 : z ≠ S) (n2 : TI ≠ S) (n3 : TO ≠ S) (n4 : i1 ≠ S) (n5 : i2 ≠ S) (n6 : l1 ≠ S) (n7 : l2 ≠ S)
    (hend : ∀ G outs s', ZipG H0 xs ys outs G → G S = none → Inv X pins σ (upd G S (.lst outs)) s' → R (.ok (.ret res)) s') :
    ∀ m i G outs s, i + m = xs.length → ZipG H0 (xs.take i) (ys.take i) outs G → G S = none → Inv X pins σ (upd G S (.lst outs)) s → ZsSt s.heap S z TI TO i1 i2 l1 l2 us1.toArray us2.toArray i →
      (∀ c ∈ [z, TI, TO, i1, i2], FpOk X pins (upd G S (.lst outs)) c) → outs.length = i → codeAny (model X.prog X.w) A (.builtin "list.extend.loop" ⟨[.ref S, .ref z, res], []⟩) R s := by
  have e1 := r1.length
  have e2 := r2.length
  intro m
  induction m with
  | zero =>
    intro i G outs s him hG hS I st hf ho
    refine codeAny_builtin F.entry_extend_loop ?_
    rw [Around.under_plainId F.plain_extend_loop _]
    show wpAny _ A.in1 (pyNext (.ref z) >>= _) _ _ s
    refine wpAny_bind (zs_stop (A := A.in1) hh D st (by simp; omega) (by simp; omega) fun h' k => wpAny_pure (hend G outs _ ?_ hS ?_))
    · rw [List.take_of_length_le (by omega), List.take_of_length_le (by omega)] at hG
      exact hG
    · exact I.turnedL (t' := s.toks) (ch := [z, TI, TO, i1, i2]) (fun b o hb e => k b o (fun q => hb (by simp [q])) (fun q => hb (by simp [q])) (fun q => hb (by simp [q])) (fun q => hb (by simp [q])) e) hf
  | succ m ih =>
    intro i G outs s him hG hS I st hf ho
    have hi1 : i < us1.length := by omega
    have hi2 : i < us2.length := by omega
    have hix : i < xs.length := by omega
    have hiy : i < ys.length := by omega
    obtain ⟨u1, hu1, ru1⟩ := r1.get (List.getElem?_eq_getElem hix)
    obtain ⟨u2, hu2, ru2⟩ := r2.get (List.getElem?_eq_getElem hiy)
    obtain ⟨zl, its, cap, rv, hlen, eS⟩ := I.lstM upd_same
    have hSlt : S < s.heap.objs.size := Heap.lt_size eS
    have ltz : ∀ c ∈ [z, TI, TO, i1, i2], c < s.heap.objs.size := by
      obtain ⟨⟨f0, b, q1, _⟩, q2, ⟨_, _, q3⟩, ⟨o4, q4, _⟩, ⟨o5, q5, _⟩, _, _⟩ := st
      intro c hc
      have hc' : c = z ∨ c = TI ∨ c = TO ∨ c = i1 ∨ c = i2 := by simpa using hc
      rcases hc' with rfl | rfl | rfl | rfl | rfl
      · exact Heap.lt_size q1
      · exact Heap.lt_size q2
      · exact Heap.lt_size q3
      · exact Heap.lt_size q4
      · exact Heap.lt_size q5
    refine codeAny_builtin F.entry_extend_loop ?_
    rw [Around.under_plainId F.plain_extend_loop _]
    show wpAny _ A.in1 (pyNext (.ref z) >>= _) _ _ s
    refine wpAny_bind (zs_step (A := A.in1) D st hSlt (x := u1) (y := u2) (by simpa using hu1) (by simpa using hu2) fun h' st' hp k => ?_)
    show wpAny _ A.in1 (updateSeq S (·.push (Value.ref s.heap.objs.size)) >>= _) _ _ _
    refine wpAny_bind ?_
    have nTS : s.heap.objs.size ≠ S := Nat.ne_of_gt hSlt
    have kk : ∀ b o, b ∉ [z, TI, TO, i1, i2] → s.heap.get? b = some o → h'.get? b = some o := fun b o hb e => k b o (fun q => hb (by simp [q])) (fun q => hb (by simp [q])) (fun q => hb (by simp [q])) (fun q => hb (by simp [q])) e
    have new : ObjOk X.prog X.w (upd (upd G S (.lst outs)) s.heap.objs.size (.tup [xs[i], ys[i]])) h' s.heap.objs.size (.tup [xs[i], ys[i]]) :=
      ⟨by show 2 ≤ sizeLine; decide, [u1, u2], .cons ru1 (.cons ru2 .nil), ⟨_, hp, rfl, _, rfl⟩⟩
    have I1 : Inv X pins σ (upd (upd G S (.lst outs)) s.heap.objs.size (.tup [xs[i], ys[i]])) { s with heap := h' } := I.turnedNew (t' := s.toks) kk hf (Nat.le_refl _) new
    have hH : (upd (upd G S (.lst outs)) s.heap.objs.size (.tup [xs[i], ys[i]])) S = some (.lst outs) := by rw [upd_ne nTS.symm, upd_same]
    obtain ⟨zl', its', cap', rv', hlen', eS'⟩ := I1.lstM hH
    have hsz : its'.length < sizeLine := by omega
    refine wpAny_updateSeq eS' rfl (wpAny_pure ⟨plainId_quiet F.plain_extend_loop _, ?_⟩) (by rw [List.size_toArray]; omega) (by show (its'.toArray.push _).size ≤ sizeLine + 1; rw [Array.size_push, List.size_toArray]; omega)
    have I2 := I1.lset (t' := s.toks) (its' := its' ++ [.ref s.heap.objs.size]) (ys := outs ++ [.ref s.heap.objs.size]) (f := (·.push (Value.ref s.heap.objs.size))) hH eS' (by simp) (rv'.append (.cons (show RelV (V.ref s.heap.objs.size) (Value.ref s.heap.objs.size) from rfl) .nil)) (by rw [List.length_append, List.length_singleton]; omega)
    rw [upd3 nTS] at I2
    have hGT : G s.heap.objs.size = none := by
      have q : (upd G S (.lst outs)) s.heap.objs.size = none := I.hok.fresh (Nat.le_refl _)
      rw [upd_ne nTS] at q
      exact q
    refine ih (i + 1) (upd G s.heap.objs.size (.tup [xs[i], ys[i]])) (outs ++ [.ref s.heap.objs.size]) _ (by omega) ?_ ?_ I2 ?_ ?_ ?_
    · have a1 : xs.take (i + 1) = xs.take i ++ [xs[i]] := by rw [List.take_succ_eq_append_getElem hix]
      have a2 : ys.take (i + 1) = ys.take i ++ [ys[i]] := by rw [List.take_succ_eq_append_getElem hiy]
      rw [a1, a2]
      exact .snoc hG hGT
    · rw [upd_ne nTS.symm]; exact hS
    · exact st'.keeps (fun c o hc e => (Heap.get?_update_other _ _ (Ne.symm hc)).trans e) n1 n2 n3 n4 n5 n6 n7
    · intro c hc
      have f := hf c hc
      have hcS : c ≠ S := by
        have hc' : c = z ∨ c = TI ∨ c = TO ∨ c = i1 ∨ c = i2 := by simpa using hc
        rcases hc' with rfl | rfl | rfl | rfl | rfl <;> assumption
      refine ⟨?_, f.2⟩
      rw [upd_ne hcS, upd_ne (Nat.ne_of_lt (ltz c hc))]
      have q := f.1
      rw [upd_ne hcS] at q
      exact q
    · rw [List.length_append, List.length_singleton, ho]
end L2.DL
namespace L2.DL
open PySem PySem.Spec PyProof.Rows
variable [Tbs]
theorem zip_len0 : typeLookup (.type "zip") "__len__" = pure none := by rw [typeLookup_type, builtinLookup_eq_fast]; kernel_rfl
theorem zip_hint0 : typeLookup (.type "zip") "__length_hint__" = pure none := by rw [typeLookup_type, builtinLookup_eq_fast]; kernel_rfl
theorem zs_iter {prog : Program} {w : World} {A : Around} {E : Value → Shared → Prop} {s : Shared} {z TI TO : Addr} {f0 : Value} {b : Bool} {Q : Value → Shared → Prop} (hz : IsZs s.heap z TI TO f0 b) (h : Q (.ref z) s) : wpAny (model prog w) A (pyIter (.ref z)) Q E s := by
  have hT : s.TypeIs (.ref z) "zip" := ⟨_, hz, rfl⟩
  refine wpAny_pyIter_slot hT F.slot_zip_iter (wpAny_call_entry F.slot_zip_iter hT F.entry_zip_iter ?_ (F.args_zip_iter_1 _))
  show wpAny _ _ (ret (.ref z)) _ _ s
  exact wpAny_pure ⟨_, rfl, "zip", _, hT, F.slot_zip_next.lookup, h⟩
/-- list(z) of a zip that has not begun -/
theorem list_zs {X : Cx} {pins : List (Addr × Obj)} {σ : St} {A : Around} {z TI TO i1 i2 l1 l2 : Addr} {H : Hp} {s : Shared} {xs ys : List V} {us1 us2 : List Value} {Q : Value → Shared → Prop} {E : Value → Shared → Prop} (hh : A.handled = none) (D : ZipApart z TI TO i1 i2 l1 l2)
    (r1 : Vals xs us1) (r2 : Vals ys us2) (hl : xs.length = ys.length) (hz : xs.length ≤ sizeLine) (I : Inv X pins σ H s) (hzz : IsZs s.heap z TI TO .none false) (hTI : IsPair s.heap TI (.ref i1) (.ref i2)) (hTO : IsPair s.heap TO .none .none)
    (t1 : s.heap.IsTupleIter i1 l1 0) (t2 : s.heap.IsTupleIter i2 l2 0) (g1 : s.heap.IsTuple l1 us1.toArray) (g2 : s.heap.IsTuple l2 us2.toArray) (hf : ∀ c ∈ [z, TI, TO, i1, i2], FpOk X pins H c)
    (hend : ∀ G outs S s', H S = none → ZipG H xs ys outs G → G S = none → Inv X pins σ (upd G S (.lst outs)) s' → Q (.ref S) s') :
    wpAny (model X.prog X.w) A (call (.type "list") [.ref z]) Q E s := by
  have lt : ∀ {c o}, s.heap.get? c = some o → c ≠ s.heap.objs.size := fun e => Nat.ne_of_lt (Heap.lt_size e)
  have n4 : i1 ≠ s.heap.objs.size := by obtain ⟨_, e, _⟩ := t1; exact lt e
  have n5 : i2 ≠ s.heap.objs.size := by obtain ⟨_, e, _⟩ := t2; exact lt e
  have n6 : l1 ≠ s.heap.objs.size := by obtain ⟨_, e, _⟩ := id g1; exact lt e
  have n7 : l2 ≠ s.heap.objs.size := by obtain ⟨_, e, _⟩ := id g2; exact lt e
  refine callType_codes (Q₁ := fun obj s₁ => obj = .ref s.heap.objs.size ∧ s₁ = { s with heap := s.heap.push { cls := .type "list", data := .seq #[] } }) F.called_list (F.typeCall_list_1 _) F.entry_list_init
    (code_list_new _ ⟨rfl, rfl⟩) fun obj s₁ h₁ => ?_
  obtain ⟨rfl, rfl⟩ := h₁
  have hS : (s.heap.push { cls := .type "list", data := .seq #[] }).get? s.heap.objs.size = some { cls := .type "list", data := .seq #[] } := Heap.get?_push_size _ rfl
  refine ⟨⟨_, hS, rfl⟩, F.args_list_init_2 _ _, ?_⟩
  show wpAny _ A.in1.in1 (do let old ← Builtin.List.listItems (.ref s.heap.objs.size); Builtin.List.listUpdate (.ref s.heap.objs.size) (fun _ => #[]); letGo old.toList.reverse; Builtin.List.listExtendWith (.ref s.heap.objs.size) (.ref z) .none) _ _ _
  refine wpAny_bind ?_
  unfold Builtin.List.listItems
  refine wpAny_bind (wpAny_seqItems hS rfl (wpAny_pure ?_))
  show wpAny _ A.in1.in1 (updateSeq s.heap.objs.size (fun _ => #[]) >>= fun _ => letGo (#[] : Array Value).toList.reverse >>= fun _ => Builtin.List.listExtendWith (.ref s.heap.objs.size) (.ref z) .none) _ _ _
  refine wpAny_bind (wpAny_updateSeq hS rfl ?_)
  have hS2 := Heap.get?_update_self (Obj.mapSeq (fun _ => (#[] : Array Value))) hS rfl
  refine wpAny_bind (wpAny_letGo ?_)
  unfold Builtin.List.listExtendWith
  have up : ∀ (h : Heap) (f : Obj → Obj), (∀ b o, s.heap.get? b = some o → h.get? b = some o) → ∀ b o, s.heap.get? b = some o → (h.update s.heap.objs.size f).get? b = some o := fun h f q b o e =>
    (Heap.get?_update_other _ _ (Ne.symm (lt e))).trans (q b o e)
  have k1 : ∀ b o, s.heap.get? b = some o → (s.heap.push { cls := .type "list", data := .seq #[] }).get? b = some o := fun b o e => Heap.get?_push_of_some _ e
  have k2 := up _ (Obj.mapSeq (fun _ => (#[] : Array Value))) k1
  have zty : ∀ {h : Heap}, (∀ b o, s.heap.get? b = some o → h.get? b = some o) → ({ s with heap := h } : Shared).TypeIs (.ref z) "zip" := fun {h} q => ⟨_, q z _ hzz, rfl⟩
  refine wpAny_bind (wpAny_typeOf (zty k2) ?_)
  have c1 : Builtin.List.listSameRef (.ref s.heap.objs.size) (.ref z) = false := by simp [Builtin.List.listSameRef, (lt hzz).symm]
  have c2 : (Value.type "zip" == Value.type "list") = false := by decide
  have c3 : (Value.type "zip" == Value.type "tuple") = false := by decide
  simp only [c1, c2, c3, Bool.or_false, Bool.false_eq_true, if_false]
  refine wpAny_bind (zs_iter (s := { s with heap := _ }) (k2 z _ hzz) ?_)
  refine wpAny_bind (wpAny_holding ?_)
  unfold Builtin.List.listLengthHint
  refine wpAny_bind (wpAny_specialOf (zty k2) zip_len0 ?_)
  show wpAny _ A.in1.in1 (specialOf (Value.ref z) (Str.ofString "__length_hint__") >>= _) _ _ _
  refine wpAny_bind (wpAny_specialOf (zty k2) zip_hint0 ?_)
  refine wpAny_pure ?_
  show wpAny _ A.in1.in1 (rule "list.extend.makes-room" >>= fun _ => Builtin.List.listTouch (.ref s.heap.objs.size) >>= fun _ =>
    again (.builtin "list.extend.loop" ⟨[.ref s.heap.objs.size, .ref z, .none], []⟩)) _ _ _
  refine wpAny_bind (wpAny_rule ?_)
  refine wpAny_bind ?_
  show wpAny _ A.in1.in1 (updateSeq s.heap.objs.size (·.push .none) >>= fun _ => updateSeq s.heap.objs.size (·.pop)) _ _ _
  refine wpAny_bind (wpAny_updateSeq hS2 rfl ?_)
  have hS3 := Heap.get?_update_self (Obj.mapSeq (·.push Value.none)) hS2 rfl
  refine wpAny_updateSeq (hz := by seq_fits) hS3 rfl ?_
  have hS4 := Heap.get?_update_self (Obj.mapSeq (·.pop)) hS3 rfl
  have k4 := up _ (Obj.mapSeq (·.pop)) (up _ (Obj.mapSeq (·.push Value.none)) k2)
  refine wpAny_pure ⟨plainId_quiet F.plain_extend_loop _, ?_⟩
  have hHS : H s.heap.objs.size = none := I.hok.fresh (Nat.le_refl _)
  have I2 := I.laid (t' := s.toks) (a := s.heap.objs.size) (o := .lst []) k4 (Nat.le_refl _) ⟨Nat.zero_le _, [], _, .nil, hS4⟩
  refine drainZ (X := X) (pins := pins) (σ := σ) (A := A.in1) (H0 := H) hh D r1 r2 hl hz (lt hzz) (lt hTI) (lt hTO) n4 n5 n6 n7 (fun G outs s' a1 a2 a3 => ⟨rfl, hend G outs _ s' hHS a1 a2 a3⟩) xs.length 0 H [] _ (Nat.zero_add _) ?_ hHS I2 ?_ (fun c hc => ?_) rfl
  · rw [List.take_zero, List.take_zero]
    exact .nil
  · exact ⟨⟨_, _, k4 _ _ hzz, .inl rfl⟩, k4 _ _ hTI, ⟨_, _, k4 _ _ hTO⟩, t1.at fun o e => k4 _ o e, t2.at fun o e => k4 _ o e, g1.at fun o e => k4 _ o e, g2.at fun o e => k4 _ o e⟩
  · have f := hf c hc
    refine ⟨?_, f.2⟩
    have hcS : c ≠ s.heap.objs.size := by
      have hc' : c = z ∨ c = TI ∨ c = TO ∨ c = i1 ∨ c = i2 := by simpa using hc
      rcases hc' with rfl | rfl | rfl | rfl | rfl
      · exact lt hzz
      · exact lt hTI
      · exact lt hTO
      · exact n4
      · exact n5
    rw [upd_ne hcS]
    exact f.1
theorem callWith_tk {M : Model} {A : Around} {E : Value → Shared → Prop} {s : Shared} {env : Env} {pos : Pos} {T : String} {e : Expr} {rest : List Expr} {kws : List Keyword} {Q : Value → Shared → Prop}
    (h : wpAny M A (spliced (backTo pos (starEach (e :: rest) env))) (fun vs s₁ => wpAny M A (evalAll ((backToKw pos (keywordEach kws env)).map (·.2)))
      (fun kvs s₂ => wpAny M A (call (.type T) vs (((backToKw pos (keywordEach kws env)).filterMap (·.1)).zip kvs)) Q E s₂) E s₁) E s)
    (he : backTo pos (starEach (e :: rest) env) = (false, eval e env) :: backTo pos (starEach rest env) := by rfl)
    (hplain : (backTo pos (starEach (e :: rest) env)).any (·.1) = false := by rfl)
    (hall : (backToKw pos (keywordEach kws env)).all (·.1.isSome) = true := by rfl)
    (hkw : (backToKw pos (keywordEach kws env)).any (·.1.isNone) = false := by rfl) :
    wpAny M A (callWith pos (.type T) [] (backTo pos (starEach (e :: rest) env)) (backToKw pos (keywordEach kws env))) Q E s := by
  have hev : wpAny M A (evalArgs (.type T) true (backTo pos (starEach (e :: rest) env)) (backToKw pos (keywordEach kws env))) (fun a s₁ => wpAny M A (call (.type T) ([] ++ a.pos) a.kw) Q E s₁) E s := by
    rw [he] at h ⊢
    exact evalArgs_kwB hall h
  unfold callWith
  refine wpAny_bind (wpAny_holding (wpAny_mono hev (fun a s₁ h₁ => wpAny_bind (wpAny_standAt ?_)) fun _ _ x => x))
  simp only [hplain, hkw, Bool.or_false]
  refine wpAny_bind (wpAny_pure ?_)
  exact wpAny_bind (wpAny_mono h₁ (fun r s₂ hr => wpAny_bind (wpAny_holding (wpAny_point (wpAny_pure hr)))) fun _ _ x => x)
def tLZ (K : PySem.W.Frag) (ta : TA) : TE := fun σ H Q => ta σ H fun vs H1 => ∃ a b xs ys, vs = [.ref a, .ref b] ∧ SqT K H1 a xs ∧ SqT K H1 b ys ∧ xs.length = ys.length ∧ ∀ G outs S, H1 S = none → ZipG H1 xs ys outs G → G S = none → Q (.ref S) (upd G S (.lst outs))
theorem pe_listZs {X : Cx} {e e2 : Expr} {ta : TA} {p p2 kp pos zpos : Pos} {j : Nat} {vp : Pos} (hc : X.calm = true) (hml : X.mg "list" = none) (hmz : X.mg "zip" = none) (ha : PA X [e, e2] ta) (hgl : Gl X "list" := by rfl) (hgz : Gl X "zip" := by rfl)
    (he0 : starEach [.Call (.Name "zip" p2) [e, e2] [⟨some "strict", .Constant (.bool true) j vp, kp⟩] zpos] X.env = (false, eval (.Call (.Name "zip" p2) [e, e2] [⟨some "strict", .Constant (.bool true) j vp, kp⟩] zpos) X.env) :: starEach [] X.env := by rfl)
    (he : backTo zpos (starEach [e, e2] X.env) = (false, eval e X.env) :: backTo zpos (starEach [e2] X.env) := by rfl)
    (hpl : (backTo zpos (starEach [e, e2] X.env)).any (·.1) = false := by rfl) :
    PE X (.Call (.Name "list" p) [.Call (.Name "zip" p2) [e, e2] [⟨some "strict", .Constant (.bool true) j vp, kp⟩] zpos] [] pos) (tLZ X.K ta) := by
  refine ⟨fun pins s σ H Q I hq => ?_⟩
  refine wpAny_Call_Name_kw (ld_blt I hgl hml (show bootBuiltins "list" = some (.type "list") by decide +kernel) ?_)
  refine PyProof.Rows.callWith_type1 ?_ he0 rfl
  rw [he0]
  show wpAny _ _ (spliced ((false, eval _ X.env) :: backTo pos (starEach [] X.env))) _ _ s
  refine Calls.spliced_cons ?_
  refine wpAny_Call_Name_kw (ld_blt I hgz hmz PyProof.Rows.boot_zip ?_)
  refine callWith_tk (thn (ha.run zpos pins s σ H _ I hq) fun us s1 ⟨vs, H1, I1, rv, q1⟩ => ?_) he hpl
  obtain ⟨a, b, xs, ys, rfl, sx, sy, hl, q1⟩ := q1
  refine thn ((pk_cons (pe_bl (b := true)) pk_nil).run zpos pins s1 σ H1 (fun vs H2 => vs = [.bl true] ∧ H2 = H1) I1 ⟨rfl, rfl⟩) fun ws s2 ⟨zs, H2, I2, rz, e1, e2⟩ => ?_
  subst e1 e2
  cases rv with
  | cons ra rr =>
    cases rr with
    | cons rb rr =>
      cases rr
      cases ra
      cases rb
      cases rz with
      | cons rk rr =>
        cases rr
        cases rk
        obtain ⟨its, rx, p1, hzx⟩ := I2.tuple sx
        obtain ⟨its2, ry, p2', _⟩ := I2.tuple sy
        have g1 : s2.heap.IsTuple a its.toArray := p1
        have g2 : s2.heap.IsTuple b its2.toArray := p2'
        refine call_zs g1 g2 fun h' z1 z2 z3 z4 z5 hsz hk => ?_
        refine Calls.spliced_nil ?_
        have fresh5 : ∀ c, c ∈ [s2.heap.objs.size + 4, s2.heap.objs.size + 2, s2.heap.objs.size + 3, s2.heap.objs.size, s2.heap.objs.size + 1] → FpOk X pins H2 c := fun c hcm => by
          have e' : c = s2.heap.objs.size + 4 ∨ c = s2.heap.objs.size + 2 ∨ c = s2.heap.objs.size + 3 ∨ c = s2.heap.objs.size ∨ c = s2.heap.objs.size + 1 := by simpa using hcm
          have hle : s2.heap.objs.size ≤ c := by
            rcases e' with rfl | rfl | rfl | rfl | rfl
            · exact Nat.le_add_right _ _
            · exact Nat.le_add_right _ _
            · exact Nat.le_add_right _ _
            · exact Nat.le_refl _
            · exact Nat.le_add_right _ _
          exact I2.fpOk hle (I2.hok.fresh hle)
        have I3 : Inv X pins σ H2 { s2 with heap := h' } := I2.kept (t' := s2.toks) hk
        obtain ⟨o1, ho1, _⟩ := id g1
        obtain ⟨o2, ho2, _⟩ := id g2
        refine list_zs (I2.ok.hd hc) (PySem.W.ktu_apart s2.heap.objs.size a b (Heap.lt_size ho1) (Heap.lt_size ho2)) rx ry hl hzx I3 z1 z2 z3 z4 z5 (g1.at fun o q => hk _ o q) (g2.at fun o q => hk _ o q) fresh5 fun G outs S s' a0 a1 a2 a3 => ?_
        exact ⟨.ref S, _, a3, rfl, q1 G outs S a0 a1 a2⟩
end L2.DL
/-! list(zip(a, b, strict=True)), as data -/
namespace L2.DL
open PySem PySem.Spec PyProof.Rows
variable [Tbs]
section
variable {K : ZK} {H G : Hp} {M : MS}
theorem relA_snoc : ∀ {vs : List V} {v : V} {ds : List D}, RelA K H M (vs ++ [v]) ds → ∃ ds' d, ds = ds' ++ [d] ∧ RelA K H M vs ds' ∧ Rel K H M v d
  | [], v, ds, h => by
    cases h with
    | cons a b =>
      cases b
      exact ⟨[], _, rfl, .nil, a⟩
  | u :: vs, v, ds, h => by
    cases h with
    | cons a b =>
      obtain ⟨ds', d, rfl, r1, r2⟩ := relA_snoc b
      exact ⟨_ :: ds', d, rfl, .cons a r1, r2⟩
theorem zipG_len {xs ys outs : List V} (g : ZipG H xs ys outs G) : xs.length = ys.length ∧ outs.length = xs.length := by
  induction g with
  | nil => exact ⟨rfl, rfl⟩
  | snoc g hT ih =>
    simp only [List.length_append, List.length_singleton]
    omega
theorem zipG_rel {xs ys outs : List V} (g : ZipG H xs ys outs G) (m : RelM K H M) : ∀ {ds es : List D}, RelA K H M xs ds → RelA K H M ys es → RelM K G M ∧ Ext K H M G M ∧ RelA K G M outs (zipD ds es) := by
  induction g with
  | nil =>
    intro ds es ra rb
    cases ra
    cases rb
    exact ⟨m, Ext.refl, .nil⟩
  | @snoc xs ys outs G x y T g hT ih =>
    intro ds es ra rb
    obtain ⟨ds, d, rfl, ra1, rd⟩ := relA_snoc ra
    obtain ⟨es, e, rfl, rb1, re⟩ := relA_snoc rb
    obtain ⟨m1, e1, r1⟩ := ih ra1 rb1
    have e2 := ext_new (o := .tup [x, y]) m1 hT
    refine ⟨relM_new m1 hT, e1.trans e2, ?_⟩
    have hl : ds.length = es.length := by rw [← ra1.length, ← rb1.length]; exact (zipG_len g).1
    have hz : zipD (ds ++ [d]) (es ++ [e]) = zipD ds es ++ [.tup [d, e]] := by
      unfold zipD
      rw [List.zipWith_append hl]
      rfl
    rw [hz]
    exact (e2.all r1).append (.cons (rel_pair hT m1 (e1 _ _ rd) (e1 _ _ re)) .nil)
end
def zsR : List D → PD → MS → Prop
  | [.tup xs, .tup ys], R, M => xs.length = ys.length ∧ R (.lst (zipD xs ys)) M
  | _, _, _ => False
def dLZ (t : DTA) : DTE := fun ρ R E M => t ρ (fun ds M1 => zsR ds R M1) E M
theorem de_listZs {X : Cx} {W : WX} {e e2 : Expr} {t : DTA} {p p2 kp pos zpos : Pos} {j : Nat} {vp : Pos} (hc : X.calm = true) (hml : X.mg "list" = none) (hmz : X.mg "zip" = none) (ha : DA X W [e, e2] t) (hgl : Gl X "list" := by rfl) (hgz : Gl X "zip" := by rfl)
    (he0 : starEach [.Call (.Name "zip" p2) [e, e2] [⟨some "strict", .Constant (.bool true) j vp, kp⟩] zpos] X.env = (false, eval (.Call (.Name "zip" p2) [e, e2] [⟨some "strict", .Constant (.bool true) j vp, kp⟩] zpos) X.env) :: starEach [] X.env := by rfl)
    (he : backTo zpos (starEach [e, e2] X.env) = (false, eval e X.env) :: backTo zpos (starEach [e2] X.env) := by rfl)
    (hpl : (backTo zpos (starEach [e, e2] X.env)).any (·.1) = false := by rfl) :
    DE X W (.Call (.Name "list" p) [.Call (.Name "zip" p2) [e, e2] [⟨some "strict", .Constant (.bool true) j vp, kp⟩] zpos] [] pos) (dLZ t) :=
  imp (pe_listZs hc hml hmz ha hgl hgz he0 he hpl) fun σ H Q ⟨z, ρ, M, R, E, hs, hm, h, hc, hE⟩ =>
    ⟨z, ρ, M, _, E, hs, hm, h, fun ds M1 vs H1 h1 m1 r1 e1 => by
      unfold zsR at h1
      split at h1
      · cases r1 with
        | cons x y =>
          cases y with
          | cons y y2 =>
            cases y2
            cases x with
            | tup s ra =>
              cases y with
              | tup s2 ra2 =>
                refine ⟨_, _, _, _, rfl, s, s2, by rw [ra.length, ra2.length]; exact h1.1, fun G outs S hS0 hG hS => ?_⟩
                obtain ⟨m2, e2, r2⟩ := zipG_rel hG m1 ra ra2
                exact hc _ _ _ _ h1.2 (relM_new m2 hS) (.lst (fz_new m2 hS) ((ext_new m2 hS).all r2)) (e1.trans (e2.trans (ext_new m2 hS)))
      · exact h1.elim, hE⟩
section
variable {ρ : Sl} {R : PD} {E : XP} {M : MS} {t : DTA} {xs ys : List D}
theorem v_lz : dLZ t ρ R E M = t ρ (fun ds M1 => zsR ds R M1) E M := (rfl)
theorem q_zs : zsR [.tup xs, .tup ys] R M = (xs.length = ys.length ∧ R (.lst (zipD xs ys)) M) := (rfl)
end
end L2.DL
/-! DLs: t[::-1]; sums of lists into a list of the store; sums of more; str, f-strings -/
namespace L2.DL
open PySem PySem.Spec PyProof.Rows
variable [Tbs]
section
variable {prog : Program} {w : World} {A : Around} {E : Value → Shared → Prop} {s : Shared}
theorem rev_places (n : Nat) : Builtin.Slice.slicePlaces ((n : Int) - 1) (-1) (-1) = n := by
  unfold Builtin.Slice.slicePlaces
  have h1 : ¬ ((-1 : Int) > 0) := by omega
  simp only [h1, if_false]
  split
  · rw [show (- -1 : Int) = 1 by decide, Int.ediv_one]; omega
  · omega
theorem rev_pick (xs : Array Value) : ((List.range xs.size).filterMap fun (m : Nat) => xs[(((xs.size : Int) - 1) + (m : Int) * (-1)).toNat]?).toArray = xs.toList.reverse.toArray := by
  have e : ((List.range xs.size).filterMap fun (m : Nat) => xs[(((xs.size : Int) - 1) + (m : Int) * (-1)).toNat]?) = ((List.range xs.size).map fun k => xs.size - 1 - k).filterMap (xs[·]?) := by
    rw [List.filterMap_map]
    have key : ∀ l : List Nat, (∀ m, m ∈ l → m < xs.size) → (l.filterMap fun (m : Nat) => xs[(((xs.size : Int) - 1) + (m : Int) * (-1)).toNat]?) = l.filterMap ((fun k => xs[k]?) ∘ fun k => xs.size - 1 - k) := by
      intro l hl
      induction l with
      | nil => rfl
      | cons m l ih =>
        have hm := hl m List.mem_cons_self
        have q : ((((xs.size : Int) - 1) + (m : Int) * (-1)).toNat) = xs.size - 1 - m := by omega
        rw [List.filterMap_cons, List.filterMap_cons, ih fun k hk => hl k (List.mem_cons_of_mem _ hk), q]
        rfl
    exact key _ fun m hm => List.mem_range.mp hm
  rw [e, PySem.W.krv_range, List.filterMap_reverse, PySem.W.krv_all]
theorem getItem_rev {t sl : Addr} {items : Array Value} {vl vu vk : Value} {Q : Value → Shared → Prop} (ht : IsTup s.heap t items) (hs : s.heap.IsSliceOf sl vl vu vk) (pl : IsPart vl none) (pu : IsPart vu none) (pk : IsPart vk (some (-1)))
    (h : Q (.ref s.heap.objs.size) { s with heap := s.heap.push { cls := .type "tuple", data := .seq items.toList.reverse.toArray } })
    (hsz : items.size ≤ sizeLine) : wpAny (model prog w) A (getItem (.ref t) (.ref sl)) Q E s := by
  have hok : sizeOk (.seq items.toList.reverse.toArray) := by
    show items.toList.reverse.toArray.size ≤ sizeLine
    rw [List.size_toArray, List.length_reverse, Array.length_toList]
    exact hsz
  obtain ⟨os, hos, hcs, hds⟩ := id hs
  have hTs : s.TypeIs (.ref sl) "slice" := ⟨os, hos, hcs⟩
  have sa : ∀ {Q : Int × Int × Nat → Shared → Prop}, Q ((items.size : Int) - 1, -1, items.size) s → wpAny (model prog w) A.in1 (Builtin.Slice.sliceApplied (.ref sl) (pure (items.size : Int))) Q E s := fun {Q} h => by
    unfold Builtin.Slice.sliceApplied Builtin.Slice.sliceFields
    refine wpAny_bind (wpAny_bind (wpAny_field hos hds (x := vl) rfl (wpAny_bind (wpAny_field hos hds (x := vu) rfl (wpAny_bind (wpAny_field hos hds (x := vk) rfl (wpAny_pure ?_)))))))
    refine wpAny_bind (HT.slicePart_ pk ?_)
    show wpAny _ _ (if ((-1 : Int) == 0) = true then _ else _) _ _ s
    rw [if_neg (by decide)]
    refine wpAny_bind (HT.slicePart_ pl (wpAny_bind (HT.slicePart_ pu (wpAny_bind (wpAny_pure ?_)))))
    show wpAny _ _ (pure ((items.size : Int) - 1, (-1 : Int), Builtin.Slice.slicePlaces ((items.size : Int) - 1) (-1) (-1))) _ _ s
    rw [rev_places]
    exact wpAny_pure h
  unfold getItem
  try with_reducible refine wpAny_holding ?_
  first | refine wpAny_bind (wpAny_pure ?_) | skip
  refine wpAny_bind (wpAny_sequenceKey ht.typeIs (by decide) ?_)
  refine wpAny_bind (wpAny_callSpecial?_slot (name := Str.ofString "__getitem__") ht.typeIs PyProof.Rows.slot_tuple_getitem
    (wpAny_call_entry PyProof.Rows.slot_tuple_getitem ht.typeIs PyProof.Rows.entry_tuple_getitem ?_ (PyProof.Rows.args_tuple_getitem _ _)))
  show wpAny _ _ (Builtin.Tuple.tupleItemsOf (.ref t) >>= _) _ _ s
  refine wpAny_bind (PyProof.Rows.tupleItemsOf_ ht ?_)
  refine wpAny_bind (wpAny_typeOf hTs ?_)
  rw [if_pos (by decide)]
  refine wpAny_bind (sa ?_)
  show wpAny _ _ (if (((items.size : Int) - 1) == 0 && (-1 : Int) == 1 && items.size == items.size) = true then _ else _) _ _ s
  rw [if_neg (by intro q; rw [Bool.and_eq_true, Bool.and_eq_true] at q; exact absurd (eq_of_beq q.1.2) (by decide)), rev_pick]
  first
    | exact wpAny_bind (m := Builtin.Tuple.tupleExact _) (wpAny_newObj_type (wpAny_pure ⟨_, rfl, wpAny_pure h⟩) hok)
    | exact wpAny_bind (m := Builtin.Tuple.tupleExact _) (wpAny_newObj_type (wpAny_bind (wpAny_pure (wpAny_pure ⟨_, rfl, wpAny_pure h⟩))) hok)
    | exact wpAny_bind (wpAny_bind (m := Builtin.Tuple.tupleExact _) (wpAny_newObj_type (wpAny_pure (wpAny_pure ⟨_, rfl, wpAny_pure h⟩)) hok))
    | exact wpAny_bind (wpAny_bind (m := Builtin.Tuple.tupleExact _) (wpAny_newObj_type (wpAny_pure ⟨_, rfl, wpAny_pure h⟩) hok))
end
section
variable {X : Cx}
def tRevA (K : PySem.W.Frag) (te : TE) : TE := fun σ H Q => te σ H fun x H1 => ∃ a xs, x = .ref a ∧ ((SqT K H1 a xs ∧ ∀ p, H1 p = none → Q (.ref p) (upd H1 p (.tup xs.reverse))) ∨ (SqL K H1 a xs ∧ ∀ p, H1 p = none → Q (.ref p) (upd H1 p (.lst xs.reverse))))
theorem pe_revA {e : Expr} {te : TE} {k : Nat} {p1 p2 p3 pos : Pos} (he : PE X e te) : PE X (.Subscript e (.Slice none none (some (.UnaryOp .USub (.Constant (.int 1) k p1) p2)) p3) pos) (tRevA X.K te) := by
  refine ⟨fun pins s σ H Q I h => ?_⟩
  refine Subscript_ (thn (he.run pins s σ H _ I h) fun v s1 ⟨x, H1, I1, r1, a, xs, ex, hq⟩ => ?_)
  subst ex
  cases r1
  have hst : PO X (some (.UnaryOp .USub (.Constant (.int 1) k p1) p2)) (tPart (tUn (rU fun i => .int (-i)) (tC (.int 1)))) := po_some (pe_un un_neg pe_int)
  refine wpAny_Slice (thn (po_none.run pins s1 σ H1 (fun o z2 => o = none ∧ z2 = H1) I1 ⟨rfl, rfl⟩) fun vl s2 ⟨l, H2, I2, pl, el, e2⟩ => ?_)
  subst el e2
  refine thn (po_none.run pins s2 σ H2 (fun o z3 => o = none ∧ z3 = H2) I2 ⟨rfl, rfl⟩) fun vu s3 ⟨u, H3, I3, pu, eu, e3⟩ => ?_
  subst eu e3
  refine thn (hst.run pins s3 σ H3 (fun o z4 => o = some (-1) ∧ z4 = H3) I3 ⟨1, rfl, -1, rfl, rfl, rfl⟩) fun vs s4 ⟨o, H4, I4, ps, eo, e4⟩ => ?_
  subst eo e4
  have I5 : Inv X pins σ H4 { s4 with heap := s4.heap.push { cls := .type "slice", data := .fields #[vl, vu, vs] } } := I4.kept (t' := s4.toks) fun b ob q => Heap.get?_push_of_some _ q
  show wpAny (model X.prog X.w) X.A (subscriptTail e (.Slice none none (some (.UnaryOp .USub (.Constant (.int 1) k p1) p2)) p3) (.ref a) (.ref s4.heap.objs.size)) (EP X pins σ Q) X.xe { s4 with heap := s4.heap.push { cls := .type "slice", data := .fields #[vl, vu, vs] } }
  rcases hq with ⟨hx, q⟩ | ⟨hx, q⟩
  · obtain ⟨its, r, ht, hz⟩ := I5.tuple hx
    have hlen := r.length
    refine tail_any (ops := [.ref a, .ref s4.heap.objs.size]) ht.typeIs PyProof.Rows.slot_tuple_getitem.lookup ?_ (by with_unfolding_all rfl)
    refine getItem_rev ht (Heap.IsSliceOf.new _ vl vu vs) pl pu ps ?_ (by rw [List.size_toArray]; omega)
    refine ⟨.ref _, _, I5.laid (t' := s4.toks) (o := .tup xs.reverse) (fun b ob z => Heap.get?_push_of_some _ z) (Nat.le_refl _) ?_, rfl, q _ (I5.hok.fresh (Nat.le_refl _))⟩
    exact ⟨by rw [List.length_reverse]; exact hz, _, r.reverse, IsTup.new _ _⟩
  · obtain ⟨its, r, ht, hz⟩ := I5.list hx
    have hlen := r.length
    refine tail_any (ops := [.ref a, .ref s4.heap.objs.size]) ht.isList.typeIs (PySem.slot_list_getitem.lookup) ?_ (by with_unfolding_all rfl)
    refine wpAny_getItem_list_slice ht.isList (Heap.IsSliceOf.new _ vl vu vs) pl pu ps (by decide) ?_ (by rw [List.size_toArray]; omega)
    rw [PySem.W.krv_pick]
    refine ⟨.ref _, _, I5.laid (t' := s4.toks) (o := .lst xs.reverse) (fun b ob z => Heap.get?_push_of_some _ z) (Nat.le_refl _) ?_, rfl, q _ (I5.hok.fresh (Nat.le_refl _))⟩
    exact ⟨by rw [List.length_reverse]; exact hz, _, 0, r.reverse, Heap.get?_push_size _ rfl⟩
end
/-! as data -/
def revD : D → PD → MS → Prop
  | .tup ds, R, M => R (.tup ds.reverse) M
  | .lst ds, R, M => R (.lst ds.reverse) M
  | .ref a, R, M => ∃ ds, M a = some (.lst ds) ∧ R (.lst ds.reverse) M
  | _, _, _ => False
def dRev (te : DTE) : DTE := fun ρ R E M => te ρ (fun d M1 => revD d R M1) E M
theorem RelA.reverse {K : ZK} {H : Hp} {M : MS} : ∀ {vs : List V} {ds : List D}, RelA K H M vs ds → RelA K H M vs.reverse ds.reverse
  | _, _, .nil => .nil
  | _, _, .cons a b => by
    rw [List.reverse_cons, List.reverse_cons]
    exact (RelA.reverse b).append (.cons a .nil)
theorem de_rev {X : Cx} {W : WX} {e : Expr} {te : DTE} {k : Nat} {p1 p2 p3 pos : Pos} (he : DE X W e te) : DE X W (.Subscript e (.Slice none none (some (.UnaryOp .USub (.Constant (.int 1) k p1) p2)) p3) pos) (dRev te) :=
  imp (pe_revA he) fun σ H Q ⟨z, ρ, M, R, E, hs, hm, h, hc, hE⟩ =>
    ⟨z, ρ, M, _, E, hs, hm, h, fun d M1 v H1 h1 m1 r1 e1 => by
      have h1 : revD d R M1 := h1
      unfold revD at h1
      split at h1
      · cases r1 with
        | tup s ra => exact ⟨_, _, rfl, .inl ⟨s, fun p hp => hc _ _ _ _ h1 (relM_new m1 hp) (.tup (SqT.of upd_same) ((ext_new m1 hp).all ra.reverse)) (e1.trans (ext_new m1 hp))⟩⟩
      · cases r1 with
        | lst s ra => exact ⟨_, _, rfl, .inr ⟨s.sq, fun p hp => hc _ _ _ _ h1 (relM_new m1 hp) (.lst (fz_new m1 hp) ((ext_new m1 hp).all ra.reverse)) (e1.trans (ext_new m1 hp))⟩⟩
      · cases r1
        obtain ⟨ds, ea, q⟩ := h1
        obtain ⟨vs, ee, ra⟩ := m1.at' _ _ ea
        exact ⟨_, _, rfl, .inr ⟨SqL.of ee, fun p hp => hc _ _ _ _ q (relM_new m1 hp) (.lst (fz_new m1 hp) ((ext_new m1 hp).all ra.reverse)) (e1.trans (ext_new m1 hp))⟩⟩
      · exact h1.elim, hE⟩
/-- a sum of lists that is a list of the store -/
def addND : D → D → PD → MS → Prop := fun x y R M => ∃ a b, Ls M x a ∧ Ls M y b ∧ a.length + b.length ≤ sizeLine ∧ ∀ p, M p = none → R (.ref p) (um M p (.lst (a ++ b)))
theorem o_addN {X : Cx} : OpD X (binaryOp .Add) addND := by
  refine ⟨_, op_cat, fun z H M x y vx vy R Q m rx ry h hc => ?_⟩
  obtain ⟨a, b, la, lb, hz, q⟩ := h
  obtain ⟨p1, vs, rfl, h1, r1⟩ := ls_at m la rx
  obtain ⟨p2, us, rfl, h2, r2⟩ := ls_at m lb ry
  exact ⟨p1, p2, vs, us, rfl, rfl, h1, h2, by rw [r1.length, r2.length]; exact hz, fun p hp =>
      hc _ _ _ _ (q p (m.free hp)) (alloc_lst m hp (r1.append r2)) (.ref p) (ext_alloc m hp)⟩
section
variable {ρ : Sl} {R : PD} {E : XP} {M : MS} {te : DTE} {xs ys : List D} {a b : Addr}
theorem v_rev : dRev te ρ R E M = te ρ (fun d M1 => revD d R M1) E M := (rfl)
theorem q_revT : revD (.tup xs) R M = R (.tup xs.reverse) M := (rfl)
theorem q_revL : revD (.lst xs) R M = R (.lst xs.reverse) M := (rfl)
theorem q_revR : revD (.ref a) R M = ∃ ds, M a = some (.lst ds) ∧ R (.lst ds.reverse) M := (rfl)
theorem q_addN : addND (.ref a) (.lst ys) R M = ∃ ds, M a = some (.lst ds) ∧ ds.length + ys.length ≤ sizeLine ∧ ∀ p, M p = none → R (.ref p) (um M p (.lst (ds ++ ys))) := by
  apply propext
  constructor
  · rintro ⟨ds, es, h1, h2, h3, h4⟩
    cases (show es = ys from h2)
    exact ⟨ds, h1, h3, h4⟩
  · rintro ⟨ds, h1, h3, h4⟩
    exact ⟨ds, ys, h1, rfl, h3, h4⟩
theorem q_addNL : addND (.lst xs) (.lst ys) R M = (xs.length + ys.length ≤ sizeLine ∧ ∀ p, M p = none → R (.ref p) (um M p (.lst (xs ++ ys)))) := by
  apply propext
  constructor
  · rintro ⟨ds, es, h1, h2, h3, h4⟩
    cases (show es = ys from h2)
    cases (show ds = xs from h1)
    exact ⟨h3, h4⟩
  · rintro ⟨h3, h4⟩
    exact ⟨xs, ys, rfl, rfl, h3, h4⟩
theorem q_addR : addD (.ref a) (.lst ys) R M = ∃ ds, M a = some (.lst ds) ∧ ds.length + ys.length ≤ sizeLine ∧ R (.lst (ds ++ ys)) M := by
  apply propext
  constructor
  · rintro ⟨ds, es, h1, h2, h3, h4⟩
    cases (show es = ys from h2)
    exact ⟨ds, h1, h3, h4⟩
  · rintro ⟨ds, h1, h3, h4⟩
    exact ⟨ds, ys, h1, rfl, h3, h4⟩
theorem q_slR {lo hi : Option Int} : slD (.ref a) lo hi R M = ∃ ds, M a = some (.lst ds) ∧ R (.lst (cut ds lo hi)) M := (rfl)
end
end L2.DL
/-! DLt: str, f-strings, ranges with a step, count of flat items, in flat tuples and lists -/
namespace L2.DL
open PySem PySem.Spec PyProof.Rows
variable [Tbs]
section
variable {X : Cx} {W : WX} {a b c e tg : Expr} {pos : Pos}
/-! str -/
def strD : List D → PD → MS → Prop
  | [.int i], R, M => i.natAbs.log2 < 1920 ∧ R (.str (Str.ofString (toString i))) M
  | [.str y], R, M => R (.str y) M
  | _, _, _ => False
theorem c_str : CallD X (.type "str") strD := by
  refine ⟨_, CallR.or call_str_int SkE.call_str_str, fun z H M xs vs R Q m ra h hc => ?_⟩
  unfold strD at h
  split at h
  · cases ra with
    | cons x y =>
      cases y; cases x
      exact .inl ⟨_, rfl, h.1, hc.here h.2 m (.str _)⟩
  · cases ra with
    | cons x y =>
      cases y; cases x
      exact .inr ⟨_, rfl, hc.here h m (.str _)⟩
  · exact h.elim
/-! f-strings -/
def fmtD : D → PD → MS → Prop
  | .str y, R, M => y.length ≤ sizeLine ∧ R (.str y) M
  | .int i, R, M => i.natAbs.log2 < 1920 ∧ R (.str (Str.ofString (toString i))) M
  | _, _, _ => False
def dFmt (te : DTE) : DTE := fun ρ R E M => te ρ (fun d M1 => fmtD d R M1) E M
theorem de_fmt {te : DTE} (he : DE X W e te) : DE X W (.FormattedValue e (-1) none pos) (dFmt te) :=
  imp (pe_fmt he) fun σ H Q ⟨z, ρ, M, R, E, hs, hm, h, hc, hE⟩ =>
    ⟨z, ρ, M, _, E, hs, hm, h, fun d M1 v H1 h1 m1 r1 e1 => by
      have h1 : fmtD d R M1 := h1
      have hc1 := hc.ext e1
      unfold fmtD at h1
      split at h1
      · cases r1
        exact .inl ⟨_, rfl, h1.1, hc1.here h1.2 m1 (.str _)⟩
      · cases r1
        exact .inr ⟨_, rfl, h1.1, hc1.here h1.2 m1 (.str _)⟩
      · exact h1.elim, hE⟩
def strW (k : Str → MS → Prop) : D → MS → Prop
  | .str y, M => k y M
  | _, _ => False
/-- the parts from the left -/
def jsW : List DTE → Str → Sl → (Str → MS → Prop) → XP → MS → Prop
  | [], acc, _, R, _, M => R acc M
  | t :: ts, acc, ρ, R, E, M => t ρ (fun d M1 => strW (fun y M2 => (acc ++ y).length ≤ sizeLine ∧ jsW ts (acc ++ y) ρ R E M2) d M1) E M
inductive DJ (X : Cx) (W : WX) : List Expr → List DTE → Prop
  | nil : DJ X W [] []
  | cons {e : Expr} {t : DTE} {es : List Expr} {ts : List DTE} (h : DE X W e t) (r : DJ X W es ts) : DJ X W (e :: es) (t :: ts)
theorem DJ.pj {es : List Expr} {ts : List DTE} (h : DJ X W es ts) : PJ X es (ts.map (lift X.K W)) := by
  induction h with
  | nil => exact .nil
  | cons h r ih => exact .cons h ih
theorem js_run {z : Hd} {σ : St} {ρ : Sl} {R : Str → MS → Prop} {E : XP} {Q : Str → Hp → Prop} : ∀ (ts : List DTE) (acc : Str) (H : Hp) (M : MS), RelS ⟨X.K, z⟩ H M σ ρ → RelM ⟨X.K, z⟩ H M → jsW ts acc ρ R E M →
    (∀ out M' H', R out M' → RelM ⟨X.K, z⟩ H' M' → Ext ⟨X.K, z⟩ H M H' M' → Q out H') → XOk ⟨X.K, z⟩ H M W E → tJs (ts.map (lift X.K W)) acc σ H Q
  | [], acc, H, M, hs, hm, h, hc, hE => hc acc M H h hm Ext.refl
  | t :: ts, acc, H, M, hs, hm, h, hc, hE => by
    refine ⟨z, ρ, M, _, E, hs, hm, h, fun d M1 v H1 h1 m1 r1 e1 => ?_, hE⟩
    have h1 : strW (fun y M2 => (acc ++ y).length ≤ sizeLine ∧ jsW ts (acc ++ y) ρ R E M2) d M1 := h1
    unfold strW at h1
    split at h1
    · cases r1
      exact ⟨_, rfl, h1.1, js_run ts _ H1 M1 (hs.ext e1) m1 h1.2 (fun out M' H' a b c => hc out M' H' a b (e1.trans c)) (hE.ext e1)⟩
    · exact h1.elim
def dJoin (ts : List DTE) : DTE := fun ρ R E M => jsW ts Str.empty ρ (fun out M1 => R (.str out) M1) E M
theorem de_join {v1 v2 : Expr} {rest : List Expr} {ts : List DTE} (h : DJ X W (v1 :: v2 :: rest) ts) : DE X W (.JoinedStr (v1 :: v2 :: rest) pos) (dJoin ts) :=
  imp (pe_joined h.pj) fun σ H Q ⟨z, ρ, M, R, E, hs, hm, h, hc, hE⟩ => js_run ts _ H M hs hm h (fun out M' H' a b c => hc _ _ _ _ a b (.str _) c) hE
/-! ranges with a step -/
def rngS (lo c : Int) (n : Nat) : List D := (List.range n).map fun (i : Nat) => D.int (lo + i * c)
theorem itOk_rngS {K : ZK} {H : Hp} {M : MS} {lo c : Int} {n : Nat} : ItOk K (Itc lo c n) (rngS lo c n) H M where
  go := fun K' i H' M' hk hi m e => by
    have h : i < n := by simpa [rngS] using hi
    exact h
  stop := fun K' H' M' hk m e => by
    show n ≤ (rngS lo c n).length
    simp [rngS]
  yld := fun K' i x H' M' H'' hk hi m e y => by
    obtain ⟨rfl, rfl⟩ := y
    have h : i < n := by simpa [rngS] using hi
    refine ⟨.int (lo + i * c), ?_, .int _, m, Ext.refl⟩
    unfold rngS
    rw [List.getElem?_map, List.getElem?_range h]
    rfl
def dRng3 (t : DTA) : DTI := fun ρ R E M => t ρ (fun ds M1 => match ds with
  | [.int i, .int j, .int c] => ∃ n, RgC i j c n ∧ R (rngS i c n) M1
  | _ => False) E M
theorem di_rng3 {t : DTA} {pp : Pos} (hm : X.mg "range" = none) (ha : DA X W [a, b, c] t) (hg : Gl X "range" := by rfl) (hs : starEach [a, b, c] X.env = (false, eval a X.env) :: starEach [b, c] X.env := by rfl) (hpl : (backTo pos (starEach [b, c] X.env)).any (·.1) = false := by rfl) :
    DI X W tg (.Call (.Name "range" pp) [a, b, c] [] pos) (dRng3 t) :=
  impI (pi_range3 hg hm ha hs hpl) fun σ H Q ⟨z, ρ, M, R, E, hs, hm, h, hc, hE⟩ =>
    ⟨z, ρ, M, _, E, hs, hm, h, fun ds M1 vs H1 h1 m1 r1 e1 => by
      split at h1
      · cases r1 with
        | cons x y =>
          cases y with
          | cons y y2 =>
            cases y2 with
            | cons y3 y4 =>
              cases x; cases y; cases y3; cases y4
              obtain ⟨n, hr, q⟩ := h1
              exact ⟨_, _, _, n, rfl, hr, hc _ _ _ _ q m1 e1 itOk_rngS⟩
      · exact h1.elim, hE⟩
/-! count -/
theorem cnt_eqU {x : V} : ∀ {xs : List V} {us : List Value}, Vals xs us → xs.all flatV = true → us.countP (eqU x) = xs.countP fun y => eqV y x
  | _, _, .nil, _ => rfl
  | y :: xs, u :: us, .cons r t, f => by
    rw [List.all_cons, Bool.and_eq_true] at f
    rw [List.countP_cons, List.countP_cons, eqU_of r f.1, cnt_eqU t f.2]
theorem mt_countV : MtR X "list.count" (fun x xs H Q => ∃ (p : Addr) (vs : List V) (y : V), x = .ref p ∧ xs = [y] ∧ SqL X.K H p vs ∧ flatV y = true ∧ vs.all flatV = true ∧ Q (.int (vs.countP fun z => eqV z y : Nat)) H) := by
  intro pins s σ H x xs v us Q I rx rxs h
  obtain ⟨p, vs, y, rfl, rfl, hs, fy, fs, q⟩ := h
  cases rx
  obtain ⟨u, rfl, ru⟩ := rxs.one
  obtain ⟨its, rv, ⟨⟨cls, dd, data, sl⟩, n, ho, hc, hdn, hd⟩, hlen⟩ := I.list hs
  simp only at hc hd
  subst hc hd
  refine call_meets PySem.F.slot_list_count ⟨_, ho, rfl⟩ PySem.F.entry_list_count (PySem.F.args_list_count_2 _ _)
    (SeqAt.list_countAt p its.toArray n dd sl u (eqU y)) ⟨ho, fun w hw => mem_eqAt ru fy rv fs w (by simpa using hw), ?_⟩
  refine ⟨.int (vs.countP fun z => eqV z y : Nat), H, I.tok _, ⟨s.toks, ?_⟩, q⟩
  rw [← cnt_eqU rv fs]
def cntD : D → List D → PD → MS → Prop
  | x, [.bl b], R, M => ∃ bs, lsBls M x bs ∧ R (.int (bs.count b : Nat)) M
  | x, [.int i], R, M => ∃ ns, lsInts M x ns ∧ R (.int (ns.count i : Nat)) M
  | _, _, _, _ => False
theorem m_count : MtD X "list.count" cntD := by
  refine ⟨_, mt_countV, fun z H M x xs v vs R Q m rx ra h hc => ?_⟩
  unfold cntD at h
  split at h
  · rename_i b
    obtain ⟨bs, hl, q⟩ := h
    obtain ⟨p, rfl, sq⟩ := lsBls_at m hl rx
    cases ra with
    | cons r1 r2 =>
      cases r2
      cases r1
      have e : (bs.map V.bl).countP (fun z => eqV z (.bl b)) = bs.count b := by
        rw [List.countP_map]
        rfl
      exact ⟨p, _, _, rfl, rfl, sq, rfl, by rw [List.all_map]; exact List.all_eq_true.mpr fun _ _ => rfl, by rw [e]; exact hc.here q m (.int _)⟩
  · rename_i i
    obtain ⟨ns, hl, q⟩ := h
    obtain ⟨p, rfl, sq⟩ := lsInts_at m hl rx
    cases ra with
    | cons r1 r2 =>
      cases r2
      cases r1
      have e : (ns.map V.int).countP (fun z => eqV z (.int i)) = ns.count i := by
        rw [List.countP_map]
        rfl
      exact ⟨p, _, _, rfl, rfl, sq, rfl, by rw [List.all_map]; exact List.all_eq_true.mpr fun _ _ => rfl, by rw [e]; exact hc.here q m (.int _)⟩
  · exact h.elim
end
section
variable {ρ : Sl} {R : PD} {E : XP} {M : MS} {te : DTE} {t : DTA} {i j : Int} {y : Str} {ts : List DTE} {acc : Str} {RS : Str → MS → Prop} {ds : List D} {x : D} {b : Bool}
theorem q_strI : strD [.int i] R M = (i.natAbs.log2 < 1920 ∧ R (.str (Str.ofString (toString i))) M) := (rfl)
theorem q_strS : strD [.str y] R M = R (.str y) M := (rfl)
theorem v_fmt : dFmt te ρ R E M = te ρ (fun d M1 => fmtD d R M1) E M := (rfl)
theorem q_fmtI : fmtD (.int i) R M = (i.natAbs.log2 < 1920 ∧ R (.str (Str.ofString (toString i))) M) := (rfl)
theorem q_fmtS : fmtD (.str y) R M = (y.length ≤ sizeLine ∧ R (.str y) M) := (rfl)
theorem v_join : dJoin ts ρ R E M = jsW ts Str.empty ρ (fun out M1 => R (.str out) M1) E M := (rfl)
theorem v_jsN : jsW [] acc ρ RS E M = RS acc M := (rfl)
theorem v_jsC : jsW (te :: ts) acc ρ RS E M = te ρ (fun d M1 => strW (fun y M2 => (acc ++ y).length ≤ sizeLine ∧ jsW ts (acc ++ y) ρ RS E M2) d M1) E M := (rfl)
theorem q_strW {k : Str → MS → Prop} : strW k (.str y) M = k y M := (rfl)
theorem v_rng3 {R : List D → MS → Prop} : dRng3 t ρ R E M = t ρ (fun ds M1 => match ds with
  | [.int i, .int j, .int c] => ∃ n, RgC i j c n ∧ R (rngS i c n) M1
  | _ => False) E M := (rfl)
theorem q_isLL : isL M (.lst ds) = True := (rfl)
theorem q_cntB : cntD x [.bl b] R M = ∃ bs, lsBls M x bs ∧ R (.int (bs.count b : Nat)) M := (rfl)
theorem q_cntI : cntD x [.int i] R M = ∃ ns, lsInts M x ns ∧ R (.int (ns.count i : Nat)) M := (rfl)
end
end L2.DL
/-! DLu: sorted of ints, two subscripts at once, in / not in, defs that call themselves -/
namespace L2.DL
open PySem PySem.Spec PyProof.Rows
variable [Tbs]
theorem bt_sorted : bootBuiltins "sorted" = some (.builtin "sorted") := by decide +kernel
def sorD : List D → PD → MS → Prop
  | [d], R, M => ∃ ns, lsInts M d ns ∧ ∀ ns' : List Int, ns'.Perm ns → ns'.Pairwise (· ≤ ·) → R (.lst (ns'.map D.int)) M
  | _, _, _ => False
theorem c_sorted {X : Cx} : CallD X (.builtin "sorted") sorD := by
  refine ⟨_, cr_sortedI, fun z H M xs vs R Q m ra h hc => ?_⟩
  unfold sorD at h
  split at h
  · cases ra with
    | cons x y =>
      cases y
      obtain ⟨ns, s, q⟩ := h
      obtain ⟨p, rfl, s2⟩ := lsInts_at m s x
      exact ⟨_, ns, rfl, s2, fun ns' l hp hw hl => hc _ _ _ _ (q ns' hp hw) (relM_new m hl) (.lst (fz_new m hl) relA_ints) (ext_new m hl)⟩
  · exact h.elim
theorem q_sorL {ns : List Int} {R : PD} {M : MS} (q : ∀ ns' : List Int, ns'.Perm ns → ns'.Pairwise (· ≤ ·) → R (.lst (ns'.map D.int)) M) : sorD [.lst (ns.map D.int)] R M := ⟨ns, rfl, q⟩
theorem q_sor2 {i j : Int} {R : PD} {M : MS} (q : R (.lst [.int (if j < i then j else i), .int (if j < i then i else j)]) M) : sorD [.lst [.int i, .int j]] R M := by
  refine q_sorL (ns := [i, j]) fun ns' hp hw => ?_
  have hl := hp.length_eq
  match ns', hl with
  | [a, b], _ =>
    have hab : a ≤ b := by simpa using hw
    have hm : ∀ x, x ∈ [a, b] ↔ x ∈ [i, j] := fun x => hp.mem_iff
    have h1 := (hm a).mp (by simp)
    have h2 := (hm b).mp (by simp)
    have h3 := (hm i).mpr (by simp)
    have h4 := (hm j).mpr (by simp)
    simp only [List.mem_cons, List.not_mem_nil, or_false] at h1 h2 h3 h4
    have e : a = (if j < i then j else i) ∧ b = (if j < i then i else j) := by split <;> omega
    rw [e.1, e.2]
    exact q
/-! o[i], p[j] = x, y -/
section
variable {X : Cx} {W : WX} {e : Expr} {te : DTE} {pos : Pos}
theorem gsub_ok {to ti : DTE} {z : Hd} {ρ : Sl} {σ : St} {H : Hp} {M : MS} {d : D} {v : V} {k : MS → Prop} {Ex : XP} {Q : St → Hp → Prop} (hs : RelS ⟨X.K, z⟩ H M σ ρ) (hm : RelM ⟨X.K, z⟩ H M) (r1 : Rel ⟨X.K, z⟩ H M v d)
    (h : to ρ (fun o M2 => ti ρ (fun i M3 => setLD o i d k M3) Ex M2) Ex M) (hx : XOk ⟨X.K, z⟩ H M W Ex)
    (hc : ∀ H' M', k M' → RelM ⟨X.K, z⟩ H' M' → Ext ⟨X.K, z⟩ H M H' M' → Q σ H') :
    gSub (lift X.K W to) (lift X.K W ti) rSetL v σ H Q :=
  ⟨z, ρ, M, _, _, hs, hm, h, fun oo M2 vo H2 h2 m2 r2 e2 =>
      ⟨z, ρ, M2, _, _, hs.ext e2, m2, h2, fun ii M3 vi H3 h3 m3 r3 e3 => by
        have ro := e3 _ _ r2
        have rd := (e2.trans e3) _ _ r1
        cases oo with
        | ref a =>
          cases ii with
          | int k =>
            cases ro; cases r3
            obtain ⟨ds, j, ea, ej, q⟩ := h3
            obtain ⟨vs, eh, ra⟩ := m3.at' _ _ ea
            have w : Ext ⟨X.K, z⟩ H3 M3 (upd H3 a (.lst (vs.set j v))) (um M3 a (.lst (ds.set j d))) := ext_write m3 ea
            exact ⟨_, vs, _, j, rfl, rfl, eh, by rw [ra.length]; exact ej, hc _ _ q (relM_write m3 ea ⟨_, upd_same, w.all (ra.set rd j)⟩) (e2.trans (e3.trans w))⟩
          | _ => exact (show False from h3).elim
        | _ => exact (show False from h3).elim, hx.ext e2⟩, hx⟩
/-- two subscripts take the items of a pair -/
def dAsgS2 (te to1 ti1 to2 ti2 : DTE) : DTS := fun De ρ M => te ρ (fun d M1 => match d with
  | .tup [x, y] => to1 ρ (fun o M2 => ti1 ρ (fun i M3 => setLD o i x (fun M4 => to2 ρ (fun o' M5 => ti2 ρ (fun i' M6 => setLD o' i' y (fun M7 => De.nx ρ M7) M6) De.ex M5) De.ex M4) M3) De.ex M2) De.ex M1
  | _ => False) De.ex M
theorem ds_asgS2 {o1 i1 o2 i2 : Expr} {to1 ti1 to2 ti2 : DTE} {p1 p2 pt : Pos} {kt : Nat} (hcalm : X.calm = true) (he : DE X W e te) (ho1 : DE X W o1 to1) (hi1 : DE X W i1 ti1) (ho2 : DE X W o2 to2) (hi2 : DE X W i2 ti2)
    (hs : swapsWithSole [.Tuple [.Subscript o1 i1 p1, .Subscript o2 i2 p2] kt pt] e pos.line X.env = pure false := by rfl) (hw : swappedStores [.Tuple [.Subscript o1 i1 p1, .Subscript o2 i2 p2] kt pt] e X.env = pure none := by rfl)
    (h1 : (assignEach [.Tuple [.Subscript o1 i1 p1, .Subscript o2 i2 p2] kt pt] X.env).map (·.2) = [assign (.Tuple [.Subscript o1 i1 p1, .Subscript o2 i2 p2] kt pt) X.env] := by rfl)
    (e2 : (assignEach [.Subscript o1 i1 p1, .Subscript o2 i2 p2] X.env).map (·.2) = assign (.Subscript o1 i1 p1) X.env :: (assignEach [.Subscript o2 i2 p2] X.env).map (·.2) := by rfl)
    (e3 : (assignEach [.Subscript o2 i2 p2] X.env).map (·.2) = assign (.Subscript o2 i2 p2) X.env :: (assignEach [] X.env).map (·.2) := by rfl)
    (hn : (assignEach [.Subscript o1 i1 p1, .Subscript o2 i2 p2] X.env).length = 2 := by rfl) (hst : (assignEach [.Subscript o1 i1 p1, .Subscript o2 i2 p2] X.env).findIdx? (·.1) = none := by rfl)
    (ha1 : ∀ v, assign (.Subscript o1 i1 p1) X.env v = (do
      let ov ← holding [v] (eval o1 X.env)
      let iv ← holding [v, ov] (eval i1 X.env)
      standAt p1
      holding [v, ov, iv] (setItem ov iv v)
      release [v, ov, iv] []) := by intro _; rfl)
    (ha2 : ∀ v, assign (.Subscript o2 i2 p2) X.env v = (do
      let ov ← holding [v] (eval o2 X.env)
      let iv ← holding [v, ov] (eval i2 X.env)
      standAt p2
      holding [v, ov, iv] (setItem ov iv v)
      release [v, ov, iv] []) := by intro _; rfl) :
    DS X W (.Assign [.Tuple [.Subscript o1 i1 p1, .Subscript o2 i2 p2] kt pt] e pos) (dAsgS2 te to1 ti1 to2 ti2) :=
  impS (ps_asg he (pg_tup hcalm (pgs_cons (pg_sub ho1 hi1 set_list ha1) (pgs_cons (pg_sub ho2 hi2 set_list ha2) pgs_nil e3) e2) hn hst) hs hw h1) fun De σ H ⟨z, ρ, M, Dd, hs, hm, h, L⟩ =>
    ⟨z, ρ, M, _, _, hs, hm, h, fun d M1 v H1 h1 m1 r1 e1 => by
      dsimp only at h1
      split at h1
      · rename_i x y
        cases r1 with
        | tup sq ra =>
          have rl := ra.length
          cases ra with
          | cons ra1 ra2 =>
            cases ra2 with
            | cons ra2 ra3 =>
              cases ra3
              refine ⟨_, _, rfl, sq, rfl, _, _, rfl, ?_⟩
              refine gsub_ok (hs.ext e1) m1 ra1 h1 (L.ext e1).ex fun H4 M4 h4 m4 e4 => ?_
              refine ⟨_, _, rfl, ?_⟩
              refine gsub_ok (hs.ext (e1.trans e4)) m4 (e4 _ _ ra2) h4 (L.ext (e1.trans e4)).ex fun H7 M7 h7 m7 e7 => ?_
              exact ⟨rfl, L.nx _ _ _ _ h7 m7 (hs.ext (e1.trans (e4.trans e7))) (e1.trans (e4.trans e7))⟩
      · exact h1.elim, L.ex⟩
end
/-! in -/
theorem room65 {k : Nat} {A : Around} (r : Room k A) : A.units + 65 < cLine := by have := r.un; omega
def inG (f : Bool → Bool) (x y : D) (R : PD) (M : MS) : Prop := ∃ e es, Sees M x e ∧ Sees M y (.lst es) ∧ isP e = true ∧ isPs es = true ∧ SeqAt.shaped (pd e) = true ∧ SeqAt.shaped (pd (.lst es)) = true ∧ R (.bl (f ((pds es).any fun z => PyData.eqv z (pd e)))) M
def inD : D → D → PD → MS → Prop := inG id
def notInD : D → D → PD → MS → Prop := inG fun k => !k
theorem o_in {X : Cx} (hu : X.A.units + 65 < cLine) : OpD X (compareOp .In) inD := by
  refine ⟨_, op_inD hu, fun z H M x y vx vy R Q m rx ry h hc => ?_⟩
  obtain ⟨e, es, sx, sy, px, py, hx, hy, q⟩ := h
  exact ⟨_, _, dp_sees m sx px rx, dp_sees (e := .lst es) m sy py ry, hx, hy, hc.here q m (.bl _)⟩
theorem o_notin {X : Cx} (hu : X.A.units + 65 < cLine) : OpD X (compareOp .NotIn) notInD := by
  refine ⟨_, op_notInD hu, fun z H M x y vx vy R Q m rx ry h hc => ?_⟩
  obtain ⟨e, es, sx, sy, px, py, hx, hy, q⟩ := h
  exact ⟨_, _, dp_sees m sx px rx, dp_sees (e := .lst es) m sy py ry, hx, hy, hc.here q m (.bl _)⟩
/-! defs that call themselves -/
section
variable {P : Program} {w : World} {K : PySem.W.Frag} {mg : Str → Option Value} {base : Heap}
theorem Df.vac {x : Str} {st : Stmt} {ps : List Str} {k : Nat} {g : G} (T : Tx K mg x st)
    (bd : ∀ (kV doc pm : Value) (an : Option Addr) (cdv ct : Value) (us : List Value), us.length = ps.length → bindArgs (PySem.W.fnOf x x (defArgs st) (defBody st) (defScope st) .none kV doc pm an cdv ct) ⟨us, []⟩ = pure (ps.zip us))
    (h0 : ∀ ds R E M, g ds R E M → False) : Df P w K mg base x ps k g := by
  obtain ⟨f, fd, h1, F⟩ := T.ex
  refine ⟨f, fd, h1, F.kp, F.binds bd, ⟨fun ds R E M h => (h0 _ _ _ _ h).elim, fun A outer s H args us vs Q E hr hG e0 hbd r hsp => ?_⟩⟩
  obtain ⟨z, ds, M, R, RE, ra, rm, hgg, _⟩ := hsp
  exact (h0 _ _ _ _ hgg).elim
end
section
variable {De : DEnds} {ρ : Sl} {M : MS} {te to1 ti1 to2 ti2 : DTE}
theorem v_asgS2 : dAsgS2 te to1 ti1 to2 ti2 De ρ M = te ρ (fun d M1 => match d with
  | .tup [x, y] => to1 ρ (fun o M2 => ti1 ρ (fun i M3 => setLD o i x (fun M4 => to2 ρ (fun o' M5 => ti2 ρ (fun i' M6 => setLD o' i' y (fun M7 => De.nx ρ M7) M6) De.ex M5) De.ex M4) M3) De.ex M2) De.ex M1
  | _ => False) De.ex M := (rfl)
end
section
variable {M : MS} {R : PD} {ds : List D}
theorem q_lstT : lstD [.tup ds] R M = R (.lst ds) M := by
  apply propext
  constructor
  · rintro ⟨a, h1, h2⟩
    cases (show a = ds from h1)
    exact h2
  · exact fun h => ⟨_, rfl, h⟩
theorem q_lstL : lstD [.lst ds] R M = R (.lst ds) M := by
  apply propext
  constructor
  · rintro ⟨a, h1, h2⟩
    cases (show a = ds from h1)
    exact h2
  · exact fun h => ⟨_, rfl, h⟩
theorem q_lstNT : lstND [.tup ds] R M = ∀ p, M p = none → R (.ref p) (um M p (.lst ds)) := by
  apply propext
  constructor
  · rintro ⟨a, h1, h2⟩
    cases (show a = ds from h1)
    exact h2
  · exact fun h => ⟨_, rfl, h⟩
end
end L2.DL
/-! DLv: tuples repeated -/
namespace L2.DL
open PySem PySem.Spec PyProof.Rows
variable [Tbs]
def mulTD : D → D → PD → MS → Prop
  | .tup ds, .int k, R, M => ds ≠ [] ∧ 2 ≤ k ∧ k ≤ 1000 ∧ ds.length ≤ 1000 ∧ R (.tup (List.replicate k.toNat ds).flatten) M
  | _, _, _, _ => False
theorem o_mulT {X : Cx} : OpD X (binaryOp .Mult) mulTD := by
  refine ⟨_, op_repT, fun z H M x y vx vy R Q m rx ry h hc => ?_⟩
  unfold mulTD at h
  split at h
  · obtain ⟨h0, h1, h2, h3, q⟩ := h
    cases ry
    cases rx with
    | tup sx ax =>
      refine ⟨_, _, _, rfl, rfl, sx, fun e => h0 ?_, h1, h2, by rw [ax.length]; exact h3, fun p hp => hc _ _ _ _ q (relM_new m hp) (.tup (SqT.of upd_same) ((ext_new m hp).all (ax.rep _))) (ext_new m hp)⟩
      have l := ax.length
      rw [e] at l
      exact List.eq_nil_of_length_eq_zero l.symm
  · exact h.elim
section
variable {M : MS} {R : PD} {ds : List D} {k : Int}
theorem q_mulT : mulTD (.tup ds) (.int k) R M = (ds ≠ [] ∧ 2 ≤ k ∧ k ≤ 1000 ∧ ds.length ≤ 1000 ∧ R (.tup (List.replicate k.toNat ds).flatten) M) := (rfl)
end
end L2.DL
/-! DLw: three names at once -/
namespace L2.DL
open PySem PySem.Spec PyProof.Rows
variable [Tbs]
section
variable {X : Cx} {W : WX} {a b c : Expr} {pos : Pos}
def dPar3 (i j l : Nat) (ta : DTA) : DTS := fun De ρ M => ta ρ (fun ds M1 => match ds with | [x, y, z] => De.nx (((ρ.set i (some x)).set j (some y)).set l (some z)) M1 | _ => False) De.ex M
theorem ds_par3 (i j l : Nat) {x y w : Str} {px py pw pt pt2 : Pos} {kt k2 : Nat} {ta : DTA} (hc : X.calm = true) (hN : X.N.Nodup) (ha : DA X W [a, b, c] ta) (hi : X.N[i]? = some x := by rfl) (hj : X.N[j]? = some y := by rfl) (hl : X.N[l]? = some w := by rfl) (hij : i ≠ j := by decide) (hil : i ≠ l := by decide) (hjl : j ≠ l := by decide)
    (hx : X.env.scope.names.lookup x = some .local := by rfl) (hy : X.env.scope.names.lookup y = some .local := by rfl) (hw0 : X.env.scope.names.lookup w = some .local := by rfl)
    (hw : swappedStores [.Tuple [.Name x px, .Name y py, .Name w pw] kt pt] (.Tuple [a, b, c] k2 pt2) X.env = pure (some [x, y, w]) := by rfl)
    (hs : swapsWithSole [.Tuple [.Name x px, .Name y py, .Name w pw] kt pt] (.Tuple [a, b, c] k2 pt2) pos.line X.env = pure false := by rfl) :
    DS X W (.Assign [.Tuple [.Name x px, .Name y py, .Name w pw] kt pt] (.Tuple [a, b, c] k2 pt2) pos) (dPar3 i j l ta) :=
  impS (ps_par3 hc hN hi hj hl hij hil hjl hx hy hw0 ha hw hs) fun De σ H ⟨z, ρ, M, Dd, hs, hm, h, L⟩ =>
    ⟨z, ρ, M, _, _, hs, hm, h, fun ds M1 vs H1 h1 m1 r1 e1 => by
      cases r1 with
      | nil => exact (show False from h1).elim
      | cons a1 r1 =>
        cases r1 with
        | nil => exact (show False from h1).elim
        | cons a2 r1 =>
          cases r1 with
          | nil => exact (show False from h1).elim
          | cons a3 r1 =>
            cases r1 with
            | nil => exact ⟨_, _, _, rfl, L.nx _ _ _ _ h1 m1 ((((hs.ext e1).set i a1).set j a2).set l a3) e1⟩
            | cons a4 r1 => exact (show False from h1).elim, L.ex⟩
end
section
variable {De : DEnds} {ρ : Sl} {M : MS} {tl : DTA} {i j l : Nat}
theorem v_par3 : dPar3 i j l tl De ρ M = tl ρ (fun ds M1 => match ds with | [x, y, z] => De.nx (((ρ.set i (some x)).set j (some y)).set l (some z)) M1 | _ => False) De.ex M := (rfl)
end
end L2.DL
/-! DLx: exceptions of own classes over any built-in base, their __init__ walked -/
namespace PySem
namespace OXG
open PySem.W PySem.Calls PyProof.Rows PySem.HandSPX
/-- own classes, then the base's own line of classes -/
inductive Ch (T : List Value) : List Value → Prop
  | base : Ch T T
  | own {c : Addr} {r : List Value} (h : Ch T r) : Ch T (.ref c :: r)
/-- what the base says -/
structure ChF (T : List Value) : Prop where
  pass : ∀ self, refuseLoop self "__setattr__" T = pure ()
  ob : T.contains (.type "object") = true
  ne : T.isEmpty = false
theorem Ch.pass {T : List Value} (F : ChF T) (self : Value) : ∀ {l : List Value}, Ch T l → refuseLoop self "__setattr__" l = pure ()
  | _, .base => F.pass self
  | _, .own h => by rw [refuseLoop_ref]; exact h.pass F self
theorem Ch.con {T : List Value} (X : String) : ∀ {l : List Value}, Ch T l → l.contains (.type X) = T.contains (.type X)
  | _, .base => rfl
  | _, .own h => by rw [List.contains_cons, h.con X]; rfl
theorem Ch.ne {T : List Value} (F : ChF T) : ∀ {l : List Value}, Ch T l → l.isEmpty = false
  | _, .base => F.ne
  | _, .own _ => rfl
section
open Builtin Builtin.ObjectAttr
variable {prog : Program} {w : World} {A : Around} {E : Value → Shared → Prop} {R : Result → Shared → Prop} {hp : Heap} {g : Array GenState} {d : Drawn} {t : Nat} {os : OsState} {T : List Value}
/-- the first field that an exception gets -/
theorem put_first {K : W.Frag} {name : Str} {tk : Tok} {v : Value} {x C : Addr} {fv : Array Value} {cd : ClassData} (F : ChF T)
    (X : K.In hp) (hx : hp.get? x = some { cls := .ref C, data := .fields fv }) (hcd : W.clsIn K C = some cd) (hm : Ch T cd.mro) (hh : cd.hasDict = true) (ha : W.findIn K (.ref C) name = some none)
    (hq : ∀ h' tk' dx, (∀ b o, b ≠ x → hp.get? b = some o → h'.get? b = some o) → hp.objs.size ≤ dx → dx ≠ x → h'.get? x = some { cls := .ref C, dict := some dx, data := .fields fv } →
      h'.Ns1 dx (fun y => if y = name then some v else none) → R (.ok (.ret .none)) ⟨h', g, d, tk', os⟩) :
    codeAny (model prog w) A (.call (.builtin "object.__setattr__") ⟨[.ref x, .str name tk, v], []⟩) R ⟨hp, g, d, t, os⟩ := by
  have I : W.InstAt hp x { cls := .ref C, data := .fields fv } C none := ⟨hx, rfl, rfl, trivial⟩
  have SF := PySem.F.store_object
  have ne := hm.ne F
  have hob : cd.mro.contains (.type "object") = true := (hm.con "object").trans F.ob
  have hxs : x ≠ hp.objs.size := Nat.ne_of_lt (Heap.lt_size hx)
  have sub : W.Looks (model prog w) hp (isInstance (.ref x) (.type "object")) true := I.type.andThen (W.looks_mroIn X (by unfold W.mroIn; rw [hcd, Option.bind_some, if_neg (by rw [ne]; decide), hob]))
  refine codeAny_call_builtin SF.slot.plain SF.entry (@W.check_slot (model prog w) _ _ ⟨hp, g, d, t, os⟩ "object.__setattr__" "object" "__setattr__" (.ref x) [.str name tk, v] [] _ SF.kind SF.split sub (SF.args (.ref x) (.str name tk) v) ?_)
  have hmr : W.Looks (model prog w) hp (mroOf (.ref C)) cd.mro := (W.looks_clsIn X hcd).andThen .now
  have L3 : W.Looks (model prog w) hp (storeTaker? none) none := .now
  have hcls : W.Looks (model prog w) hp (classData C) cd := W.looks_clsIn X hcd
  rw [W.osa_eq, refuse_eq]
  refine wpAny_bind (wpAny_bind (I.type.at (wpAny_bind (hmr.at ?_))))
  rw [hm.pass F]
  refine wpAny_pure (wpAny_bind (I.type.at (wpAny_bind ((W.looks_findIn X ha).at (wpAny_bind (L3.at ?_))))))
  show wpAny _ _ (storeInOwnDict (.ref x) (.ref C) (.str name tk) name v false) _ _ _
  obtain ⟨nm, bs, mro, ns, qn, hd, sn, sb, ab, col, del⟩ := cd
  dsimp only at hh
  subst hh
  unfold storeInOwnDict ownDictForStores
  repeat (first | with_reducible refine store_in_new ?_ ?_ | with_reducible refine wpAny_loadPart_at hx ?_ | with_reducible refine hcls.at ?_ | wp_step)
  · exact ⟨_, #[], _, (Heap.get?_update_ne _ _ _ _ hxs.symm).trans (Heap.get?_push_at rfl rfl), rfl, fun e he => absurd he (by simp), fun _ => rfl⟩
  · intro h' tk' hn' hs
    have hx₁ : (hp.push { cls := .type "dict", data := .dict #[] }).get? x = some { cls := .ref C, data := .fields fv } := Heap.get?_push_of_some _ hx
    refine hq h' tk' hp.objs.size (fun b o hb ho => ?_) (Nat.le_refl _) hxs.symm ?_ hn'
    · exact (hs.2 b (Nat.ne_of_lt (Heap.lt_size ho))).trans ((Heap.get?_update_ne _ _ _ _ hb).trans (Heap.get?_push_of_some _ ho))
    · exact (hs.2 x hxs).trans (Heap.get?_update_self _ hx₁ rfl)
/-- a further one -/
theorem put_more {K : W.Frag} {name : Str} {tk : Tok} {v : Value} {x C dx : Addr} {fv : Array Value} {cd : ClassData} {m0 : Str → Option Value} {nl : List Str} (F : ChF T)
    (X : K.In hp) (hx : hp.get? x = some { cls := .ref C, dict := some dx, data := .fields fv }) (hns : hp.Ns1 dx m0) (hw : Within m0 nl) (hz : nl.length ≤ 1000) (hcd : W.clsIn K C = some cd) (hm : Ch T cd.mro) (hh : cd.hasDict = true)
    (ha : W.findIn K (.ref C) name = some none)
    (hq : ∀ h' tk', (∀ b o, b ≠ dx → hp.get? b = some o → h'.get? b = some o) → h'.Ns1 dx (fun y => if y = name then some v else m0 y) → R (.ok (.ret .none)) ⟨h', g, d, tk', os⟩) :
    codeAny (model prog w) A (.call (.builtin "object.__setattr__") ⟨[.ref x, .str name tk, v], []⟩) R ⟨hp, g, d, t, os⟩ := by
  obtain ⟨oD, esD, epD, hoD, hdD, _⟩ := hns.count hw
  have I : W.InstAt hp x { cls := .ref C, dict := some dx, data := .fields fv } C (some oD) := ⟨hx, rfl, rfl, hoD⟩
  have SF := PySem.F.store_object
  have ne := hm.ne F
  have hob : cd.mro.contains (.type "object") = true := (hm.con "object").trans F.ob
  have sub : W.Looks (model prog w) hp (isInstance (.ref x) (.type "object")) true := I.type.andThen (W.looks_mroIn X (by unfold W.mroIn; rw [hcd, Option.bind_some, if_neg (by rw [ne]; decide), hob]))
  refine codeAny_call_builtin SF.slot.plain SF.entry (@W.check_slot (model prog w) _ _ ⟨hp, g, d, t, os⟩ "object.__setattr__" "object" "__setattr__" (.ref x) [.str name tk, v] [] _ SF.kind SF.split sub (SF.args (.ref x) (.str name tk) v) ?_)
  have hmr : W.Looks (model prog w) hp (mroOf (.ref C)) cd.mro := (W.looks_clsIn X hcd).andThen .now
  have L3 : W.Looks (model prog w) hp (storeTaker? none) none := .now
  have hcls : W.Looks (model prog w) hp (classData C) cd := W.looks_clsIn X hcd
  rw [W.osa_eq, refuse_eq]
  refine wpAny_bind (wpAny_bind (I.type.at (wpAny_bind (hmr.at ?_))))
  rw [hm.pass F]
  refine wpAny_pure (wpAny_bind (I.type.at (wpAny_bind ((W.looks_findIn X ha).at (wpAny_bind (L3.at ?_))))))
  show wpAny _ _ (storeInOwnDict (.ref x) (.ref C) (.str name tk) name v false) _ _ _
  obtain ⟨nm, bs, mro, ns, qn, hd, sn, sb, ab, col, del⟩ := cd
  dsimp only at hh
  subst hh
  unfold storeInOwnDict ownDictForStores
  repeat (first | with_reducible refine PySem.OEX.store_in_old hns hw hz ?_ | with_reducible refine wpAny_loadPart_at hx ?_ | with_reducible refine hcls.at ?_ | wp_step)
  intro h' tk' hn' hs
  exact hq h' tk' (fun b o hb ho => (hs.2 b hb).trans ho) hn'
end
abbrev tV : List Value := [.type "ValueError", .type "Exception", .type "BaseException", .type "object"]
abbrev tL : List Value := [.type "LookupError", .type "Exception", .type "BaseException", .type "object"]
abbrev tZ : List Value := [.type "ZeroDivisionError", .type "ArithmeticError", .type "Exception", .type "BaseException", .type "object"]
theorem chV : ChF tV := ⟨fun self => PySem.F.store_ValueError.passes self, by decide +kernel, rfl⟩
theorem chL : ChF tL := ⟨fun self => PySem.F.store_LookupError.passes self, by decide +kernel, rfl⟩
theorem chZ : ChF tZ := ⟨fun self => PySem.F.store_ZeroDivisionError.passes self, by decide +kernel, rfl⟩
end OXG
end PySem
/-! DLy: the fields of an exception that is being made; its base's __init__; the class called -/
namespace L2
open PySem PySem.Spec PyProof.Rows PySem.OXG
/-- what the written part says of an own exception class over the base B -/
structure Ow (K : PySem.W.Frag) (C : Addr) (T : List Value) (newId : String) : Prop where
  cls : ∃ nm q N bs bm sn sub ab col dd k0 k1 k2 k3 k5, K.lookup C = some (excClassObj nm q C N bs bm true sn sub ab col dd k0 k1 k2 k3 k5 newId) ∧ Ch T bm
  sa : PySem.W.findIn K (.ref C) "__setattr__" = some (some (.builtin "object.__setattr__"))
  exC : PySem.W.subIn K (.ref C) (.type "BaseException") = some true
  tyC : PySem.W.typeIn K (.ref C) = some (.type "type")
  kC : PySem.W.keepIn K (.ref C) = true
section
variable {X : Cx} {pins : List (Addr × Obj)} {σ : St} {H : Hp} {s : Shared} {a C dx : Addr} {f : Str} {y : V} {u : Value} {fs : List (Str × V)} {Q : Unit → Shared → Prop} {E : Value → Shared → Prop} {A : Around} {T : List Value} {B newId initId : String}
theorem ow_cls {K : PySem.W.Frag} (O : Ow K C T newId) : ∃ cd : ClassData, PySem.W.clsIn K C = some cd ∧ Ch T cd.mro ∧ cd.hasDict = true := by
  obtain ⟨nm, q, N, bs, bm, sn, sub, ab, col, dd, k0, k1, k2, k3, k5, hC, hbm⟩ := O.cls
  refine ⟨{ name := nm, bases := bs, mro := .ref C :: bm, ns := N, qualname := q, hasDict := true, slotNames := sn, subclasses := sub, abstract := ab, collection := col, hasDel := false }, ?_, .own hbm, rfl⟩
  unfold PySem.W.clsIn
  rw [hC]
/-- self.f = y, the first one -/
theorem fld_new (F : ChF T) (O : Ow X.K C T newId) (I : Inv X pins σ H s) (e : H a = some (exo a C none)) (hno : PySem.W.findIn X.K (.ref C) f = some none) (ry : RelV y u)
    (h : ∀ dx s', H dx = none → dx ≠ a → Inv X pins σ (upd (upd H dx (exd dx [(f, y)])) a (exo a C (some dx))) s' → Q () s') : wpAny (model X.prog X.w) A (setAttr (.ref a) f u) Q E s := by
  obtain ⟨cd, hcl, hch, hhd⟩ := ow_cls O
  obtain ⟨t1, ho⟩ := exo_at I.hok e
  obtain ⟨hp, g, d, t, os⟩ := s
  refine PySem.W.set_plain I.kIn (ox := { cls := .ref C, dict := none, data := .fields #[.ref t1, .none, .none, .none, .bool false, .none] }) (od := none) ⟨ho, rfl, rfl, trivial⟩ O.sa ?_
  refine put_first F I.kIn ho hcl hch hhd hno (fun h' tk' dx k dn dne hx hn => ?_)
  have hnd : H dx = none := I.hok.fresh dn
  have nd : ∀ {b : Addr} {o : Obj}, hp.get? b = some o → b ≠ dx := fun {b o} q => Nat.ne_of_lt (Nat.lt_of_lt_of_le (Heap.lt_size q) dn)
  have na : ∀ {b : Addr}, H b = none → b ≠ a := fun {b} n z => by
    rw [z, e] at n
    cases n
  have Un1 : Un X.fs [] H (upd (upd H dx (exd dx [(f, y)])) a (exo a C (some dx))) hp h' := {
    keep := fun b o q n _ _ => k b o (na n) q
    slot := fun b o q n _ _ => ⟨o.slots, k b o (na n) q⟩
    free := fun b o q n _ => by rw [upd_ne (na n), upd_ne (nd q)]; exact n
    there := fun b o q _ => by
      by_cases hb : b = a
      · exact ⟨_, by rw [hb]; exact hx⟩
      · exact ⟨o, k b o hb q⟩
    tups := fun b xs q => by rw [upd_ne (at_ne e q exo_tup), upd_ne (ne_of_none q hnd)]; exact q
    frzs := fun b o v q => by rw [upd_ne (at_ne e q exo_frz), upd_ne (ne_of_none q hnd)]; exact q
    tbls := fun b ps q => ⟨#[], by rw [upd_ne (at_ne e q exo_tbl), upd_ne (ne_of_none q hnd), q]; simp⟩ }
  refine h dx _ hnd dne (I.un (t' := tk') Un1 fun b o q => ?_)
  by_cases hb : b = a
  · subst hb
    rw [upd_same] at q
    cases q
    exact exo_ok hx
  · rw [upd_ne hb] at q
    by_cases hd : b = dx
    · subst hd
      rw [upd_same] at q
      cases q
      exact exd_ok hn (relO_put (fs := []) ry fun g => True.intro)
    · rw [upd_ne hd] at q
      exact (I.hok b o q).stay (fun c v hc z => k c v (by
          rcases hc with hc | hc
          · rw [hc]
            exact hb
          · exact at_ne e hc exo_own) z)
        (fun c hc => by rw [upd_ne (at_ne e hc exo_own), upd_ne (ne_of_none hc hnd)]; exact hc) (fun c xs hc => by rw [upd_ne (at_ne e hc exo_tup), upd_ne (ne_of_none hc hnd)]; exact hc)
/-- self.f = y, a further one -/
theorem fld_more (F : ChF T) (O : Ow X.K C T newId) (I : Inv X pins σ H s) (e : H a = some (exo a C (some dx))) (ed : H dx = some (exd dx fs)) (hl : fs.length ≤ 900) (hno : PySem.W.findIn X.K (.ref C) f = some none) (ry : RelV y u)
    (h : ∀ s', Inv X pins σ (upd H dx (exd dx ((f, y) :: fs))) s' → Q () s') : wpAny (model X.prog X.w) A (setAttr (.ref a) f u) Q E s := by
  obtain ⟨cd, hcl, hch, hhd⟩ := ow_cls O
  obtain ⟨t1, ho⟩ := exo_at I.hok e
  obtain ⟨mA, hns, rel⟩ := exd_at I.hok ed
  have hw := within_of rel
  obtain ⟨hp, g, d, t, os⟩ := s
  obtain ⟨oD, _, _, hoD, _, _⟩ := hns.count hw
  refine PySem.W.set_plain I.kIn (ox := { cls := .ref C, dict := some dx, data := .fields #[.ref t1, .none, .none, .none, .bool false, .none] }) (od := some oD) ⟨ho, rfl, rfl, hoD⟩ O.sa ?_
  refine put_more F I.kIn ho hns hw (by rw [List.length_map]; omega) hcl hch hhd hno (fun h' tk' k hn => ?_)
  have hd : ∃ o, h'.get? dx = some o := by
    obtain ⟨o, _, _, e', _⟩ := hn
    exact ⟨o, e'⟩
  exact h _ (I.write (t' := tk') (x := dx) (e := dx) (o := exd dx ((f, y) :: fs)) (by rw [ed]; exact True.intro) (.inl rfl) k hd (exd_ok hn (relO_put ry rel)))
/-- the base's __init__ of it: nothing of it is told -/
theorem base_init (G : ExcBaseFacts B newId initId T) {us : List Value} {Q : Value → Shared → Prop} (O : Ow X.K C T newId) (I : Inv X pins σ H s) (e : H a = some (exo a C none)) (hl : us.length ≤ sizeLine) (h : ∀ s', Inv X pins σ H s' → Q .none s') :
    wpAny (model X.prog X.w) A (call (.builtin initId) (.ref a :: us)) Q E s := by
  obtain ⟨nm, q, N, bs, bm, sn, sub, ab, col, dd, k0, k1, k2, k3, k5, hC, hbm⟩ := O.cls
  obtain ⟨t1, ho⟩ := exo_at I.hok e
  obtain ⟨hp, g, d, t, os⟩ := s
  refine wpAny_call (PySem.HandSPX.init_base G (fun Y => hbm.con Y) (I.kIn _ _ hC) ho hl fun h' t2 k hx => ?_)
  have J := I.write (t' := t) (x := a) (e := a) (o := exo a C none) (by rw [e]; exact True.intro) (.inl rfl) k ⟨_, hx⟩ (exo_ok hx)
  have eu : upd H a (exo a C none) = H := by
    funext b
    by_cases hb : b = a
    · rw [hb, upd_same, e]
    · rw [upd_ne hb]
  rw [eu] at J
  exact h _ J
end

/-! readings and rules -/
/-- Base.__init__(self, ..), Base an own class -/
def tBI (K : PySem.W.Frag) (T : List Value) (newId : String) (ta : TA) : TE := fun σ H Q => ta σ H fun vs H1 => ∃ (a C : Addr) (ws : List V), vs = .ref a :: ws ∧ ws.length ≤ 1000 ∧ Ow K C T newId ∧ H1 a = some (exo a C none) ∧ Q .non H1
/-- self.f = e -/
def tFldX (K : PySem.W.Frag) (T : List Value) (newId : String) (f : Str) (to te : TE) : TS := fun D σ H => te σ H fun y H1 => to σ H1 fun x H2 => ∃ a C : Addr, x = .ref a ∧ Ow K C T newId ∧ PySem.W.findIn K (.ref C) f = some none ∧
  ((H2 a = some (exo a C none) ∧ ∀ dx, H2 dx = none → dx ≠ a → D.nx σ (upd (upd H2 dx (exd dx [(f, y)])) a (exo a C (some dx)))) ∨
    ∃ (dx : Addr) (fs : List (Str × V)), H2 a = some (exo a C (some dx)) ∧ H2 dx = some (exd dx fs) ∧ fs.length ≤ 900 ∧ D.nx σ (upd H2 dx (exd dx ((f, y) :: fs))))
/-- what an own base class says of its __init__ -/
structure BaseC (K : PySem.W.Frag) (C0 : Addr) (initId : String) : Prop where
  ga : PySem.W.specialIn K (.ref C0) "__getattribute__" = some (some (.builtin "type.__getattribute__"))
  rd : PySem.W.readsIn K C0 (.type "type") = true
  fd : PySem.W.findCls K (.ref C0) (.type "type") "__init__" = some (.val (.builtin initId))
  hi : PySem.W.handedIn (.builtin initId) = true
section
variable {X : Cx} {o e : Expr} {es : List Expr} {to te : TE} {ta : TA} {f : Str} {p p' p1 p2 pos : Pos} {T : List Value} {B newId initId : String}
theorem pe_binit {C0 : Addr} {x : Str} {pl : Sem Bool} (G : ExcBaseFacts B newId initId T) (hg : Gl X x) (hm : X.mg x = some (.ref C0)) (b : BaseC X.K C0 initId) (ha : PA X (e :: es) ta)
    (hdb : (x == ("__debug__" : Str)) = false := by decide)
    (hc : eval (.Call (.Attribute (.Name x p1) "__init__" p2) (e :: es) [] pos) X.env = (do
      let ov ← eval (.Name x p1) X.env
      standAt p2.atName
      let (f, first) ← holding [ov] (getMethod ov "__init__" pl)
      callWith pos f first (backTo pos (starEach (e :: es) X.env)) (backToKw pos (keywordEach [] X.env))) := by rfl)
    (he : starEach (e :: es) X.env = (false, eval e X.env) :: starEach es X.env := by rfl) (hpl : (backTo pos (starEach es X.env)).any (·.1) = false := by rfl) :
    PE X (.Call (.Attribute (.Name x p1) "__init__" p2) (e :: es) [] pos) (tBI X.K T newId ta) := by
  refine ⟨fun pins s σ H Q I h => ?_⟩
  refine PySem.W.methodCall_KW (ld_glob I hg hm ?_ hdb) hc
  refine PySem.W.method_cls I.kIn b.ga (PySem.W.cls_value I.kIn b.rd b.fd b.hi ?_)
  show wpAny _ _ (callWith pos (Value.builtin initId) [] (backTo pos (starEach (e :: es) X.env)) []) _ _ _
  refine PyProof.Rows.callWith_method1 (thn (ha.run pos pins _ σ H _ (I.tok _) h) fun us s1 ⟨vs, H1, I1, r1, a, C, ws, ev, hl, O, ea, q⟩ => ?_) he hpl
  subst ev
  cases r1 with
  | @cons _ u0 _ ur ra rw' =>
    obtain rfl : u0 = Value.ref a := ra
    have hlen : ur.length ≤ sizeLine := by
      rw [← Paired.length rw', sizeLine_eq]
      omega
    exact base_init G O I1 ea hlen fun s' J => ⟨.non, H1, J, rfl, q⟩
theorem ps_fldX (F : ChF T) (ho : PE X o to) (he : PE X e te) (hs : swapsWith e (some (.Attribute o f p')) pos.line X.env = pure false := by rfl) : PS X (.Assign [.Attribute o f p'] e pos) (tFldX X.K T newId f to te) := by
  refine ⟨fun pins s σ H D I h => ?_⟩
  refine plainObj_wpAny_Assign_Attribute (thn (he.run pins s σ H _ I h) fun v s1 ⟨y, H1, I1, r1, q1⟩ => thn (ho.run pins s1 σ H1 _ I1 q1) fun u s2 ⟨x, H2, I2, r2, a, C, ex, O, hno, q⟩ => ?_) hs
  subst ex
  obtain rfl : u = Value.ref a := r2
  rcases q with ⟨ea, q⟩ | ⟨dx, fs, ea, ed, hl, q⟩
  · exact fld_new F O I2 ea hno r1 fun dx s' n ne J => ⟨σ, _, J, q dx n ne⟩
  · exact fld_more F O I2 ea ed hl hno r1 fun s' J => ⟨σ, _, J, q⟩
/-- C(e, ..), C's own __init__ keeping sp -/
theorem pmk_ownX {CX : CXT} {x : Str} {C fI : Addr} {k : Nat} {fd : FuncData} {ps : List Str} {sp : Sp} {ds : List Value} {dvs : List V} (G : ExcBaseFacts B newId initId T) (O : Ow X.K C T newId) (iC : PySem.W.findIn X.K (.ref C) "__init__" = some (some (.ref fI))) (tI : PySem.W.typeIn X.K (.ref fI) = some (.type "function"))
    (F1 : FnOk X.prog X.w X.K X.mg X.base CX k fI fd ps sp) (hr : Room (k + 1) X.A) (hb : Binds X.K fd ps ds) (hd : Vals dvs ds) (hx : Passes CX X (fun _ _ _ => False)) (hg : Gl X x) (hm : X.mg x = some (.ref C)) (ha : PA X (e :: es) ta)
    (hdb : (x == ("__debug__" : Str)) = false := by decide) (he : starEach (e :: es) X.env = (false, eval e X.env) :: starEach es X.env := by rfl) (hpl : (backTo pos (starEach es X.env)).any (·.1) = false := by rfl) :
    PMk X (.Call (.Name x p) (e :: es) [] pos) (tMkO C sp dvs ta) := by
  intro pins s σ H Q I h
  obtain ⟨nm, q, N, bs, bm, sn, sub, ab, col, dd, k0, k1, k2, k3, k5, hC, hbm⟩ := O.cls
  refine wpAny_Call_Name_kw (ld_glob I hg hm ?_ hdb)
  refine PySem.W.callWith_K (h₀ := X.base) I.ok.mod.kin O.kC (thn (ha.run pos pins s σ H _ I h) fun us s1 ⟨vs, H1, I1, r1, hz, q1⟩ => ⟨I1.kIn, ?_⟩) he hpl
  show wpAny _ _ (call (.ref C) us) _ _ _
  obtain ⟨hp, g, dr, tk, os⟩ := s1
  have hsz : hp.objs.size ≤ hp.objs.size + 1 := Nat.le_succ _
  have hn : H1 (hp.objs.size + 1) = none := I1.hok.fresh hsz
  have hq := q1 (hp.objs.size + 1) hn
  have kk : ∀ b o, hp.get? b = some o → ((hp.push (PySem.W.kdv_tup us)).push (PySem.HandSPX.excO C hp.objs.size)).get? b = some o := fun b o e => Heap.get?_push_of_some _ (Heap.get?_push_of_some _ e)
  have hget : ((hp.push (PySem.W.kdv_tup us)).push (PySem.HandSPX.excO C hp.objs.size)).get? (hp.objs.size + 1) = some (PySem.HandSPX.excO C hp.objs.size) := by heap_get
  have I2 : Inv X pins σ (upd H1 (hp.objs.size + 1) (exo (hp.objs.size + 1) C none)) ⟨(hp.push (PySem.W.kdv_tup us)).push (PySem.HandSPX.excO C hp.objs.size), g, dr, tk, os⟩ :=
    I1.laid (t' := tk) (a := hp.objs.size + 1) (o := exo (hp.objs.size + 1) C none) (h' := (hp.push (PySem.W.kdv_tup us)).push (PySem.HandSPX.excO C hp.objs.size)) kk hsz (exo_ok hget)
  have r2 : Vals (V.ref (hp.objs.size + 1) :: (vs ++ dvs)) (Value.ref (hp.objs.size + 1) :: (us ++ ds)) := .cons rfl (r1.append hd)
  have hl : (Value.ref (hp.objs.size + 1) :: us ++ ds).length = ps.length := by
    have e := r2.length
    rw [F1.len _ _ _ _ hq] at e
    exact e.symm
  have hus : us.length ≤ sizeLine := by
    rw [← Paired.length r1, sizeLine_eq]
    omega
  refine wpAny_call (PySem.HandSPX.call_own G (fun Y => hbm.con Y) (I1.kIn _ _ hC) (PySem.W.looks_findIn I1.kIn iC) (fun self => PySem.W.bind_fn I1.kIn self tI) hus
    (codeAny_mono (F1.run _ X.stack _ _ ⟨Value.ref (hp.objs.size + 1) :: us, []⟩ (Value.ref (hp.objs.size + 1) :: (us ++ ds)) _ _ (fun _ _ _ => False) (hr.make C us []) (I2.env0.make C us []) (hb _ (Value.ref (hp.objs.size + 1) :: us) I2.kIn hl) r2 hq) fun r s' hq' => ?_))
  cases r with
  | error er => exact hx pins σ _ _ er s' I2 hq'
  | ok fl =>
    cases fl with
    | ret u =>
      obtain ⟨v, H2, os2, bare2, un2, hok2, rv, ev, d, fs, ea, ed, hd1, q2⟩ := hq'
      subst ev
      obtain ⟨h2, g2, d2, t2, os'⟩ := s'
      exact ⟨rv, mk_end (raises_own O.exC O.tyC) I1 hsz kk un2 hok2 os2 bare2 ea ed hd1 q2⟩
    | next => exact False.elim hq'
    | brk => exact False.elim hq'
    | cont => exact False.elim hq'
end
end L2
/-! DLz: enumerate of tuples and lists in loops -/
namespace PySem
open Sem (wp)
open AutoSeq1 (wpAny_loadPart')
theorem meets_enumT (l : Addr) (items : Array Value) (n : Nat) (dct : Option Addr) (sl : Array (Option Value)) :
    Meets (Builtin.«enumerate.__new__» ⟨[.type "enumerate", .ref l], []⟩) (fun _ R s => s.heap.get? l = some { cls := .type "tuple", dict := dct, data := .seq items n, slots := sl } ∧
      R (.ok (.ret (.ref (s.heap.push { cls := .type "tuple_iterator", data := .fields #[.ref l, .int 0 0] }).objs.size)))
        { s with heap := (s.heap.push { cls := .type "tuple_iterator", data := .fields #[.ref l, .int 0 0] }).push { cls := .type "enumerate", data := .fields #[.none, .bool false, .ref s.heap.objs.size, rawInt 0, .none, .none] } }) :=
  .of_wp fun prog w A R s h => by
    obtain ⟨hp, g, d, tk, os⟩ := s; obtain ⟨hl, h⟩ := h
    have hsub := sub_enumerate
    have hL : Heap.IsTuple (Shared.heap ⟨hp, g, d, tk, os⟩) l items := ⟨_, hl, rfl, n, rfl⟩
    wp_walk using wpAny_loadPart' hl
    refine wpAny_stack_any fun st => wpAny_pure ?_
    split
    · rename_i c _ _ _ _ _
      cases (c == Value.type "enumerate")
      · wp_walk using wpAny_loadPart' hl, wpAny_pyIter_tuple hL
        exact ⟨_, rfl, h⟩
      · wp_walk using wpAny_loadPart' hl, wpAny_pyIter_tuple hL
        exact ⟨_, rfl, h⟩
    · wp_walk using wpAny_loadPart' hl, wpAny_pyIter_tuple hL
      exact ⟨_, rfl, h⟩
section
variable {prog : Program} {w : World} {A : Around} {E : Value → Shared → Prop} {s : Shared}
theorem call_enumT {l : Addr} {items : Array Value} {Q : Value → Shared → Prop} (hL : s.heap.IsTuple l items)
    (h : ∀ h', IsEnum h' (s.heap.objs.size + 1) s.heap.objs.size 0 .none → h'.IsTupleIter s.heap.objs.size l 0 → h'.objs.size = s.heap.objs.size + 2 →
      (∀ b o, s.heap.get? b = some o → h'.get? b = some o) → Q (.ref (s.heap.objs.size + 1)) { s with heap := h' }) :
    wpAny (model prog w) A (call (.type "enumerate") [.ref l]) Q E s := by
  obtain ⟨⟨c, dct, dt, sl⟩, hl, hc, n, hd⟩ := hL
  replace hc : c = .type "tuple" := hc
  replace hd : dt = .seq items n := hd
  subst hc hd
  refine callType_new F.called_enumerate (by decide) (F.typeCall_enumerate_1 _) (F.newCall_enumerate_1 _) (fun obj => F.args_object_init_2 obj _) F.entry_enumerate_new
    (meets_enumT l items n dct sl) ⟨hl, ?_⟩
  have hz : (s.heap.push { cls := .type "tuple_iterator", data := .fields #[.ref l, .int 0 0] }).objs.size = s.heap.objs.size + 1 := Heap.size_push ..
  show _ ∧ _
  rw [hz]
  have he : IsEnum ((s.heap.push { cls := .type "tuple_iterator", data := .fields #[.ref l, .int 0 0] }).push
      { cls := .type "enumerate", data := .fields #[.none, .bool false, .ref s.heap.objs.size, rawInt 0, .none, .none] }) (s.heap.objs.size + 1) s.heap.objs.size 0 .none := by
    have := Heap.get?_push_size (s.heap.push { cls := .type "tuple_iterator", data := .fields #[.ref l, .int 0 0] })
      (o := { cls := .type "enumerate", data := .fields #[.none, .bool false, .ref s.heap.objs.size, rawInt 0, .none, .none] }) rfl
    rw [hz] at this; exact this
  refine ⟨⟨_, he, rfl⟩, h _ he ⟨_, Heap.get?_push_of_some _ (Heap.get?_push_size _ rfl), rfl, rfl⟩ (by rw [Heap.size_push, hz]) fun b o x => Heap.get?_push_of_some _ (Heap.get?_push_of_some _ x)⟩
end
end PySem
namespace L2
open PySem PySem.Spec PyProof.Rows
/-- the tuple at a as it stands at each turn, each item in a new pair -/
def IteT (K : PySem.W.Frag) (a : Addr) : It :=
  ⟨fun i H => ∃ (xs : List V) (x : V), SqT K H a xs ∧ xs[i]? = some x, fun i H v H' => ∃ T x, v = .ref T ∧ H T = none ∧ H' = upd H T (.tup [.int (i : Nat), x]) ∧ ∀ xs, SqT K H a xs → xs[i]? = some x, fun i H => ∃ xs : List V, SqT K H a xs ∧ xs.length ≤ i⟩
theorem turn_enumT {P : Program} {w : World} {K : PySem.W.Frag} {elts : List Expr} {kk : Nat} {tpos : Pos} (a e it : Addr) :
    Turn P w K (.Tuple elts kk tpos) (IteT K a) [e, it] e (fun i h => (∃ old, IsEnum h e it ((i : Nat) : Int) old) ∧ h.IsTupleIter it a i ∧ e ≠ it ∧ a ≠ it ∧ a ≠ e) where
  mem := by simp
  obj := fun i h st b hb => by
    obtain ⟨⟨old, he⟩, ⟨o, ho, hc, hd⟩, _⟩ := st
    have e' : b = e ∨ b = it := by simpa using hb
    rcases e' with z | z
    · rw [z]; exact ⟨_, he, fun v q => nomatch q⟩
    · rw [z]; exact ⟨o, ho, fun v q => by rw [hd] at q; cases q⟩
  keep := fun i h h' st k => let ⟨⟨old, he⟩, hi, hne⟩ := st; ⟨⟨old, k e (by simp) _ he⟩, hi.at fun o q => k it (by simp) o q, hne⟩
  item := by
    intro X hP hw hK hc i pins s σ H E I hf st hg
    subst hP hw hK
    obtain ⟨⟨old, he⟩, hit, hne, hai, hae⟩ := st
    obtain ⟨xs, x, hq, hx⟩ := hg
    obtain ⟨its, rv, p, hz⟩ := I.tuple hq
    obtain ⟨u, hu, ru⟩ := rv.get hx
    have hel : e < s.heap.objs.size := Heap.lt_size he
    have hil : it < s.heap.objs.size := by obtain ⟨_, q, _⟩ := hit; exact Heap.lt_size q
    have hlt : i < its.toArray.size := by
      rw [List.size_toArray]
      exact (List.getElem?_eq_some_iff.mp hu).1
    refine wpAny_pyNext_enum_itemD (Draws.tuple (prog := X.prog) (w := X.w) (A := X.A.in1) (show X.A.in1.handled = none from I.ok.hd hc) it a hai its.toArray) he ⟨hit, p⟩ hlt hne (by simp [hne, Ne.symm hae]) fun x' h' tk hPx ho st' hT hsz hk => ?_
    have ex : x' = u := by
      have : its[i]? = some x' := by simpa using hPx
      rw [hu] at this
      exact (Option.some.inj this).symm
    subst ex
    obtain ⟨hit', p'⟩ := st'
    refine ⟨_, rfl, wpAny_letOwnedTupleGo_enum (s := { s with heap := h', toks := tk + 1 }) ho fun h'' he' sb => ?_⟩
    have hT2 : h''.get? s.heap.objs.size = some { cls := .type "tuple", data := .seq #[.int i tk, x'] } := (sb.2 _ (Nat.ne_of_gt hel)).trans hT
    have new : ObjOk X.prog X.w (upd H s.heap.objs.size (.tup [.int (i : Nat), x])) h'' s.heap.objs.size (.tup [.int (i : Nat), x]) :=
      ⟨by show 2 ≤ sizeLine; decide, [.int i tk, x'], .cons ⟨_, rfl⟩ (.cons ru .nil), ⟨_, hT2, rfl, _, rfl⟩⟩
    have I1 : Inv X pins σ (upd H s.heap.objs.size (.tup [.int (i : Nat), x])) { s with heap := h'', toks := tk + 1 } :=
      I.turnedNew (ch := [e, it]) (fun b ob hb q => (sb.2 b (fun z => hb (by simp [z]))).trans (hk b ob (fun z => hb (by simp [z])) (fun z => hb (by simp [z])) q)) hf (Nat.le_refl _) new
    refine ⟨.ref s.heap.objs.size, _, I1, rfl, ⟨_, x, rfl, I.hok.fresh (Nat.le_refl _), rfl, fun ys hy => by rw [I.tuple_inj hy hq]; exact hx⟩, ⟨⟨x', ?_⟩, hit'.at fun o q => (sb.2 it (Ne.symm hne)).trans q, hne, hai, hae⟩, fun b hb => ?_⟩
    · have e1 : ((i + 1 : Nat) : Int) = (i : Int) + 1 := by omega
      rw [e1]; exact he'
    · have hb' : b < s.heap.objs.size := by
        have e' : b = e ∨ b = it := by simpa using hb
        rcases e' with z | z
        · rw [z]; exact hel
        · rw [z]; exact hil
      rw [upd_ne (Nat.ne_of_lt hb')]
      exact (hf b hb).1
  done := by
    intro X hP hw hK hc i pins s σ H E I hf st hg
    subst hP hw hK
    obtain ⟨⟨old, he⟩, hit, hne, hai, hae⟩ := st
    obtain ⟨xs, hq, hx⟩ := hg
    obtain ⟨its, rv, p, hz⟩ := I.tuple hq
    obtain ⟨f0, f1, f2, f3, f4, f5⟩ := hf it (by simp)
    have hl := rv.length
    have hT : s.TypeIs (.ref e) "enumerate" := ⟨_, he, rfl⟩
    unfold pyNext
    refine wpAny_bind (wpAny_attempt (wpAny_callSpecial?_slot (name := Str.ofString "__next__") hT F.slot_enumerate_next
      (wpAny_call_entry F.slot_enumerate_next hT F.entry_enumerate_next ?_ (F.args_enumerate_next_1 _))))
    show wpAny _ _ (field (.ref e) 2 >>= _) _ _ _
    refine wpAny_bind (wpAny_field he rfl (x := .ref it) rfl ?_)
    refine wpAny_bind (wpAny_nextOf_tuple_end (I.ok.hd hc) hit p (by simp; omega) fun h' x he' hx' => ?_)
    obtain ⟨o, ho, hcc⟩ := hx'
    refine wpAny_bind (wpAny_isInstance (T := "StopIteration") (b := true) ⟨o, ho, hcc⟩ isSubtype_stop ?_)
    exact wpAny_pure ⟨rfl, I.turned (t' := s.toks) (fun b o hb q => he' b o hb q) f0 f1 f3 f4 f5⟩
  self := fun A i s Q E st h => let ⟨⟨_, he⟩, _⟩ := st; wpAny_pyIter_enum he h
def iEnumA (K : PySem.W.Frag) (ta : TA) : TI := fun σ H R => ta σ H fun vs H1 => ∃ a xs, vs = [.ref a] ∧ ((SqL K H1 a xs ∧ R (Ite K a) H1) ∨ (SqT K H1 a xs ∧ R (IteT K a) H1))
theorem pi_enumA {X : Cx} {e : Expr} {ta : TA} {p pos tpos : Pos} {elts : List Expr} {kk : Nat} (hg : Gl X "enumerate") (hm : X.mg "enumerate" = none) (ha : PA X [e] ta) (hs : starEach [e] X.env = [(false, eval e X.env)] := by rfl) :
    PI X (.Tuple elts kk tpos) (.Call (.Name "enumerate" p) [e] [] pos) (iEnumA X.K ta) := by
  refine ⟨fun pins s σ H R I h => ?_⟩
  refine Call_ (ld_blt I hg hm PyProof.Rows.boot_enumerate (PyProof.Rows.callWith_type1 (thn (ha.run pos pins s σ H _ I h) fun us s1 ⟨vs, H1, I1, r1, q1⟩ => ?_) hs rfl))
  obtain ⟨a, xs, ex, q1⟩ := q1
  subst ex
  cases r1 with
  | cons r rr =>
    cases rr
    cases r
    have fresh2 : ∀ b, b ∈ [s1.heap.objs.size + 1, s1.heap.objs.size] → FpOk X pins H1 b := fun b hb => by
      have e' : b = s1.heap.objs.size + 1 ∨ b = s1.heap.objs.size := by simpa using hb
      have hle : s1.heap.objs.size ≤ b := by
        rcases e' with z | z
        · rw [z]; exact Nat.le_add_right _ _
        · rw [z]; exact Nat.le_refl _
      exact I1.fpOk hle (I1.hok.fresh hle)
    rcases q1 with ⟨hq, q⟩ | ⟨hq, q⟩
    · obtain ⟨its, rv, p', hz⟩ := I1.list hq
      refine call_enumerate_list p'.isList fun h' he hit hsz hk => wpAny_pyIter_enum he ?_
      have I2 : Inv X pins σ H1 { s1 with heap := h' } := I1.kept (t' := s1.toks) hk
      exact ⟨s1.heap.objs.size + 1, [s1.heap.objs.size + 1, s1.heap.objs.size], _, _, H1, rfl, I2, turn_enum a (s1.heap.objs.size + 1) s1.heap.objs.size, ⟨⟨.none, he⟩, hit, Nat.succ_ne_self _⟩, fresh2, q⟩
    · obtain ⟨its, rv, p', hz⟩ := I1.tuple hq
      obtain ⟨oa, hoa, _⟩ := id p'
      have hlt : a < s1.heap.objs.size := Heap.lt_size hoa
      refine call_enumT (show s1.heap.IsTuple a its.toArray from p') fun h' he hit hsz hk => wpAny_pyIter_enum he ?_
      have I2 : Inv X pins σ H1 { s1 with heap := h' } := I1.kept (t' := s1.toks) hk
      exact ⟨s1.heap.objs.size + 1, [s1.heap.objs.size + 1, s1.heap.objs.size], _, _, H1, rfl, I2, turn_enumT a (s1.heap.objs.size + 1) s1.heap.objs.size, ⟨⟨.none, he⟩, hit, Nat.succ_ne_self _, Nat.ne_of_lt hlt, Nat.ne_of_lt (Nat.lt_succ_of_lt hlt)⟩, fresh2, q⟩
end L2
namespace L2.DL
open PySem PySem.Spec PyProof.Rows
variable [Tbs]
def enuD (ds : List D) : List D := ds.mapIdx fun (i : Nat) d => D.tup [.int i, d]
theorem enuD_len {ds : List D} : (enuD ds).length = ds.length := by unfold enuD; rw [List.length_mapIdx]
theorem enuD_at {ds : List D} {i : Nat} {d : D} (h : ds[i]? = some d) : (enuD ds)[i]? = some (.tup [.int i, d]) := by unfold enuD; rw [List.getElem?_mapIdx, h]; rfl
section
variable {K : ZK} {H : Hp} {M : MS}
theorem itOk_enumT {a : Addr} {xs : List D} (r1 : Rel K H M (.ref a) (.tup xs)) : ItOk K (IteT K.K a) (enuD xs) H M where
  go := fun K' i H' M' hk hi m e => by
    rw [enuD_len] at hi
    cases e _ _ r1 with
    | tup s ra =>
      obtain ⟨v, q, _⟩ := ra.get (List.getElem?_eq_getElem hi)
      exact ⟨_, v, hk.1 ▸ s, q⟩
  stop := fun K' H' M' hk m e => by
    rw [enuD_len]
    cases e _ _ r1 with
    | tup s ra => exact ⟨_, hk.1 ▸ s, Nat.le_of_eq ra.length⟩
  yld := fun K' i x H' M' H'' hk hi m e y => by
    obtain ⟨T, vx, rfl, hT, rfl, f1⟩ := y
    cases e _ _ r1 with
    | tup s ra =>
      obtain ⟨d1, q1, e1⟩ := ra.getV (f1 _ (hk.1 ▸ s))
      exact ⟨_, enuD_at q1, rel_pair hT m (.int _) e1, relM_new m hT, ext_new m hT⟩
theorem itOk_enumL {a : Addr} {xs : List D} (r1 : Rel K H M (.ref a) (.lst xs)) : ItOk K (Ite K.K a) (enuD xs) H M where
  go := fun K' i H' M' hk hi m e => by
    rw [enuD_len] at hi
    cases e _ _ r1 with
    | lst s ra =>
      obtain ⟨v, q, _⟩ := ra.get (List.getElem?_eq_getElem hi)
      exact ⟨_, v, hk.1 ▸ s.sq, q⟩
  stop := fun K' H' M' hk m e => by
    rw [enuD_len]
    cases e _ _ r1 with
    | lst s ra => exact ⟨_, hk.1 ▸ s.sq, Nat.le_of_eq ra.length⟩
  yld := fun K' i x H' M' H'' hk hi m e y => by
    obtain ⟨T, vx, rfl, hT, rfl, f1⟩ := y
    cases e _ _ r1 with
    | lst s ra =>
      obtain ⟨d1, q1, e1⟩ := ra.getV (f1 _ (hk.1 ▸ s.sq))
      exact ⟨_, enuD_at q1, rel_pair hT m (.int _) e1, relM_new m hT, ext_new m hT⟩
end
def enuR : List D → (List D → MS → Prop) → MS → Prop
  | [.tup xs], R, M => R (enuD xs) M
  | [.lst xs], R, M => R (enuD xs) M
  | _, _, _ => False
def dEnum (t : DTA) : DTI := fun ρ R E M => t ρ (fun ds M1 => enuR ds R M1) E M
section
variable {X : Cx} {W : WX} {a : Expr} {pos : Pos}
theorem di_enum {t : DTA} {pp tpos : Pos} {elts : List Expr} {kk : Nat} (hm : X.mg "enumerate" = none) (ha : DA X W [a] t) (hg : Gl X "enumerate" := by rfl) (hs : starEach [a] X.env = [(false, eval a X.env)] := by rfl) :
    DI X W (.Tuple elts kk tpos) (.Call (.Name "enumerate" pp) [a] [] pos) (dEnum t) :=
  impI (pi_enumA hg hm ha hs) fun σ H Q ⟨z, ρ, M, R, E, hs, hm, h, hc, hE⟩ =>
    ⟨z, ρ, M, _, E, hs, hm, h, fun ds M1 vs H1 h1 m1 r1 e1 => by
      unfold enuR at h1
      split at h1
      · cases r1 with
        | cons x y =>
          cases y
          cases x with
          | tup s ra => exact ⟨_, _, rfl, .inr ⟨s, hc _ _ _ _ h1 m1 e1 (itOk_enumT (.tup s ra))⟩⟩
      · cases r1 with
        | cons x y =>
          cases y
          cases x with
          | lst s ra => exact ⟨_, _, rfl, .inl ⟨s.sq, hc _ _ _ _ h1 m1 e1 (itOk_enumL (.lst s ra))⟩⟩
      · exact h1.elim, hE⟩
end
section
variable {ρ : Sl} {M : MS} {t : DTA} {xs : List D} {R : List D → MS → Prop}
theorem v_enum : dEnum t ρ = fun (R : List D → MS → Prop) E M => t ρ (fun ds M1 => enuR ds R M1) E M := (rfl)
theorem q_enuT : enuR [.tup xs] R M = R (enuD xs) M := (rfl)
theorem q_enuL : enuR [.lst xs] R M = R (enuD xs) M := (rfl)
theorem enuD_map {α : Type} (e : α → D) (ps : List α) : enuD (ps.map e) = ps.mapIdx fun (i : Nat) p => D.tup [.int i, e p] := by
  unfold enuD
  apply List.ext_getElem?
  intro i
  rw [List.getElem?_mapIdx, List.getElem?_map, List.getElem?_mapIdx]
  cases ps[i]? <;> rfl
end
end L2.DL
namespace L2
open PySem PySem.Spec PyProof.Rows
/-- in, not in: of a tuple's data -/
def rInT (K : PySem.W.Frag) (f : Bool → Bool) : R2 := fun x y H Q => ∃ d ds, Dp K H x d ∧ Dp K H y (.tuple ds) ∧ SeqAt.shaped d = true ∧ SeqAt.shaped (.tuple ds) = true ∧ Q (.bl (f (ds.any fun z => PyData.eqv z d))) H
section
variable {X : Cx}
theorem op_inT (hu : X.A.units + 65 < cLine) : OpR X (compareOp .In) (rInT X.K id) := by
  intro pins s σ H x y v u Q I rx ry h
  obtain ⟨d, ds, hd, he, sd, se, q⟩ := h
  obtain ⟨as, r1⟩ := Dp.reads I d x v hd rx
  obtain ⟨bs, r2⟩ := Dp.reads I (.tuple ds) y u he ry
  have cl : PyData.canLayAll0 ds = true := by
    have := SeqAt.canLay_of_shaped se
    simpa [PyData.canLay0] using this
  exact SeqAt.in_tuple_reads r2 r1 cl (SeqAt.canLay_of_shaped sd) (room_in_shaped sd hu) ⟨.bl _, H, I, rfl, q⟩
theorem op_notInT (hu : X.A.units + 65 < cLine) : OpR X (compareOp .NotIn) (rInT X.K fun k => !k) := by
  intro pins s σ H x y v u Q I rx ry h
  obtain ⟨d, ds, hd, he, sd, se, q⟩ := h
  obtain ⟨as, r1⟩ := Dp.reads I d x v hd rx
  obtain ⟨bs, r2⟩ := Dp.reads I (.tuple ds) y u he ry
  have cl : PyData.canLayAll0 ds = true := by
    have := SeqAt.canLay_of_shaped se
    simpa [PyData.canLay0] using this
  exact SeqAt.notIn_tuple_reads r2 r1 cl (SeqAt.canLay_of_shaped sd) (room_in_shaped sd hu) ⟨.bl _, H, I, rfl, q⟩
end
end L2
namespace L2.DL
open PySem PySem.Spec PyProof.Rows
variable [Tbs]
def inTG (f : Bool → Bool) : D → D → PD → MS → Prop
  | x, .tup es, R, M => ∃ e, Sees M x e ∧ isP e = true ∧ isPs es = true ∧ SeqAt.shaped (pd e) = true ∧ SeqAt.shaped (pd (.tup es)) = true ∧ R (.bl (f ((pds es).any fun z => PyData.eqv z (pd e)))) M
  | _, _, _, _ => False
def inTD : D → D → PD → MS → Prop := inTG id
def notInTD : D → D → PD → MS → Prop := inTG fun k => !k
theorem o_inT {X : Cx} (hu : X.A.units + 65 < cLine) : OpD X (compareOp .In) inTD := by
  refine ⟨_, op_inT hu, fun z H M x y vx vy R Q m rx ry h hc => ?_⟩
  unfold inTD inTG at h
  split at h
  · obtain ⟨e, sx, px, py, hx, hy, q⟩ := h
    exact ⟨_, _, dp_sees m sx px rx, dp_of (.tup _) _ py ry, hx, hy, hc.here q m (.bl _)⟩
  · exact h.elim
theorem o_notinT {X : Cx} (hu : X.A.units + 65 < cLine) : OpD X (compareOp .NotIn) notInTD := by
  refine ⟨_, op_notInT hu, fun z H M x y vx vy R Q m rx ry h hc => ?_⟩
  unfold notInTD inTG at h
  split at h
  · obtain ⟨e, sx, px, py, hx, hy, q⟩ := h
    exact ⟨_, _, dp_sees m sx px rx, dp_of (.tup _) _ py ry, hx, hy, hc.here q m (.bl _)⟩
  · exact h.elim
end L2.DL
/-! DLza: t[::k] of a tuple, k one or minus one as it is told -/
namespace L2.DL
open PySem PySem.Spec PyProof.Rows
variable [Tbs]
section
variable {prog : Program} {w : World} {A : Around} {E : Value → Shared → Prop} {s : Shared}
theorem one_places (n : Nat) : Builtin.Slice.slicePlaces 0 (n : Int) 1 = n := by
  unfold Builtin.Slice.slicePlaces
  have h1 : (1 : Int) > 0 := by omega
  simp only [h1, if_true]
  split
  · rw [Int.ediv_one]; omega
  · omega
theorem getItem_one {t sl : Addr} {items : Array Value} {vl vu vk : Value} {Q : Value → Shared → Prop} (ht : IsTup s.heap t items) (hs : s.heap.IsSliceOf sl vl vu vk) (pl : IsPart vl none) (pu : IsPart vu none) (pk : IsPart vk (some 1))
    (h : Q (.ref t) s) (hsz : items.size ≤ sizeLine) : wpAny (model prog w) A (getItem (.ref t) (.ref sl)) Q E s := by
  obtain ⟨os, hos, hcs, hds⟩ := id hs
  have hTs : s.TypeIs (.ref sl) "slice" := ⟨os, hos, hcs⟩
  have sa : ∀ {Q : Int × Int × Nat → Shared → Prop}, Q ((0 : Int), 1, items.size) s → wpAny (model prog w) A.in1 (Builtin.Slice.sliceApplied (.ref sl) (pure (items.size : Int))) Q E s := fun {Q} h => by
    unfold Builtin.Slice.sliceApplied Builtin.Slice.sliceFields
    refine wpAny_bind (wpAny_bind (wpAny_field hos hds (x := vl) rfl (wpAny_bind (wpAny_field hos hds (x := vu) rfl (wpAny_bind (wpAny_field hos hds (x := vk) rfl (wpAny_pure ?_)))))))
    refine wpAny_bind (HT.slicePart_ pk ?_)
    show wpAny _ _ (if ((1 : Int) == 0) = true then _ else _) _ _ s
    rw [if_neg (by decide)]
    refine wpAny_bind (HT.slicePart_ pl (wpAny_bind (HT.slicePart_ pu (wpAny_bind (wpAny_pure ?_)))))
    show wpAny _ _ (pure ((0 : Int), (1 : Int), Builtin.Slice.slicePlaces 0 (items.size : Int) 1)) _ _ s
    rw [one_places]
    exact wpAny_pure h
  unfold getItem
  try with_reducible refine wpAny_holding ?_
  first | refine wpAny_bind (wpAny_pure ?_) | skip
  refine wpAny_bind (wpAny_sequenceKey ht.typeIs (by decide) ?_)
  refine wpAny_bind (wpAny_callSpecial?_slot (name := Str.ofString "__getitem__") ht.typeIs PyProof.Rows.slot_tuple_getitem
    (wpAny_call_entry PyProof.Rows.slot_tuple_getitem ht.typeIs PyProof.Rows.entry_tuple_getitem ?_ (PyProof.Rows.args_tuple_getitem _ _)))
  show wpAny _ _ (Builtin.Tuple.tupleItemsOf (.ref t) >>= _) _ _ s
  refine wpAny_bind (PyProof.Rows.tupleItemsOf_ ht ?_)
  refine wpAny_bind (wpAny_typeOf hTs ?_)
  rw [if_pos (by decide)]
  refine wpAny_bind (sa ?_)
  show wpAny _ _ (if ((0 : Int) == 0 && (1 : Int) == 1 && items.size == items.size) = true then _ else _) _ _ s
  rw [if_pos (by simp)]
  refine wpAny_bind ?_
  unfold Builtin.Tuple.tupleIsExact
  first
    | refine wpAny_bind (wpAny_typeOf ht.typeIs (wpAny_pure ?_))
    | refine wpAny_typeOf ht.typeIs ?_
    | refine wpAny_bind (wpAny_typeOf ht.typeIs ?_)
  rw [if_pos (by decide)]
  exact wpAny_bind (wpAny_rule (wpAny_pure ⟨_, rfl, wpAny_pure h⟩))
end
section
variable {X : Cx}
def tStepA (K : PySem.W.Frag) (te ts : TE) : TE := fun σ H Q => te σ H fun x H1 => ts σ H1 fun y H2 => ∃ a xs k, x = .ref a ∧ y = .int k ∧ SqT K H2 a xs ∧ ((k = 1 ∧ Q (.ref a) H2) ∨ (k = -1 ∧ ∀ p, H2 p = none → Q (.ref p) (upd H2 p (.tup xs.reverse))))
theorem pe_stepA {e st : Expr} {te ts : TE} {p3 pos : Pos} (he : PE X e te) (hs : PE X st ts) : PE X (.Subscript e (.Slice none none (some st) p3) pos) (tStepA X.K te ts) := by
  refine ⟨fun pins s σ H Q I h => ?_⟩
  refine Subscript_ (thn (he.run pins s σ H _ I h) fun v s1 ⟨x, H1, I1, r1, hq⟩ => ?_)
  have hst : PO X (some st) (tPart ts) := po_some hs
  have hm3 : ∀ (t : TE) H0, t σ H0 (fun y H2 => ∃ a xs k, x = .ref a ∧ y = .int k ∧ SqT X.K H2 a xs ∧ ((k = 1 ∧ Q (.ref a) H2) ∨ (k = -1 ∧ ∀ p, H2 p = none → Q (.ref p) (upd H2 p (.tup xs.reverse))))) →
      t σ H0 (fun y H2 => ∃ i, y = .int i ∧ ∃ a xs k, x = .ref a ∧ some i = some k ∧ SqT X.K H2 a xs ∧ ((k = 1 ∧ Q (.ref a) H2) ∨ (k = -1 ∧ ∀ p, H2 p = none → Q (.ref p) (upd H2 p (.tup xs.reverse))))) := fun t H0 h => by
    have e : (fun (y : V) (H2 : Hp) => ∃ a xs k, x = V.ref a ∧ y = V.int k ∧ SqT X.K H2 a xs ∧ ((k = 1 ∧ Q (.ref a) H2) ∨ (k = -1 ∧ ∀ p, H2 p = none → Q (.ref p) (upd H2 p (.tup xs.reverse))))) = (fun y H2 => ∃ i, y = .int i ∧ ∃ a xs k, x = .ref a ∧ some i = some k ∧ SqT X.K H2 a xs ∧ ((k = 1 ∧ Q (.ref a) H2) ∨ (k = -1 ∧ ∀ p, H2 p = none → Q (.ref p) (upd H2 p (.tup xs.reverse))))) := by
      funext y H2
      apply propext
      constructor
      · rintro ⟨a, xs, k, h1, h2, h3, h4⟩
        exact ⟨k, h2, a, xs, k, h1, rfl, h3, h4⟩
      · rintro ⟨i, h2, a, xs, k, h1, h5, h3, h4⟩
        cases h5
        exact ⟨a, xs, i, h1, h2, h3, h4⟩
    rw [← e]
    exact h
  refine wpAny_Slice (thn (po_none.run pins s1 σ H1 (fun o z2 => o = none ∧ z2 = H1) I1 ⟨rfl, rfl⟩) fun vl s2 ⟨l, H2, I2, pl, el, e2⟩ => ?_)
  subst el e2
  refine thn (po_none.run pins s2 σ H2 (fun o z3 => o = none ∧ z3 = H2) I2 ⟨rfl, rfl⟩) fun vu s3 ⟨u, H3, I3, pu, eu, e3⟩ => ?_
  subst eu e3
  refine thn (hst.run pins s3 σ H3 (fun o z4 => ∃ a xs k, x = .ref a ∧ o = some k ∧ SqT X.K z4 a xs ∧ ((k = 1 ∧ Q (.ref a) z4) ∨ (k = -1 ∧ ∀ p, z4 p = none → Q (.ref p) (upd z4 p (.tup xs.reverse))))) I3 ?_) fun vs s4 ⟨o, H4, I4, ps, a, xs, k, ex, eo, hx, hr⟩ => ?_
  · exact hm3 _ _ hq
  · subst ex eo
    cases r1
    have I5 : Inv X pins σ H4 { s4 with heap := s4.heap.push { cls := .type "slice", data := .fields #[vl, vu, vs] } } := I4.kept (t' := s4.toks) fun b ob q => Heap.get?_push_of_some _ q
    show wpAny (model X.prog X.w) X.A (subscriptTail e (.Slice none none (some st) p3) (.ref a) (.ref s4.heap.objs.size)) (EP X pins σ Q) X.xe { s4 with heap := s4.heap.push { cls := .type "slice", data := .fields #[vl, vu, vs] } }
    obtain ⟨its, r, ht, hz⟩ := I5.tuple hx
    have hlen := r.length
    refine tail_any (ops := [.ref a, .ref s4.heap.objs.size]) ht.typeIs PyProof.Rows.slot_tuple_getitem.lookup ?_ (by with_unfolding_all rfl)
    rcases hr with ⟨rfl, q⟩ | ⟨rfl, q⟩
    · exact getItem_one ht (Heap.IsSliceOf.new _ vl vu vs) pl pu ps ⟨.ref a, _, I5, rfl, q⟩ (by rw [List.size_toArray]; omega)
    · refine getItem_rev ht (Heap.IsSliceOf.new _ vl vu vs) pl pu ps ?_ (by rw [List.size_toArray]; omega)
      refine ⟨.ref _, _, I5.laid (t' := s4.toks) (o := .tup xs.reverse) (fun b ob z => Heap.get?_push_of_some _ z) (Nat.le_refl _) ?_, rfl, q _ (I5.hok.fresh (Nat.le_refl _))⟩
      exact ⟨by rw [List.length_reverse]; exact hz, _, r.reverse, IsTup.new _ _⟩
end
/-! as data -/
def stepD : D → D → PD → MS → Prop
  | .tup ds, .int k, R, M => (k = 1 ∧ R (.tup ds) M) ∨ (k = -1 ∧ R (.tup ds.reverse) M)
  | _, _, _, _ => False
def dStep (te ts : DTE) : DTE := fun ρ R E M => te ρ (fun d M1 => ts ρ (fun k M2 => stepD d k R M2) E M1) E M
theorem de_step {X : Cx} {W : WX} {e st : Expr} {te ts : DTE} {p3 pos : Pos} (he : DE X W e te) (hs : DE X W st ts) : DE X W (.Subscript e (.Slice none none (some st) p3) pos) (dStep te ts) :=
  imp (pe_stepA he hs) fun σ H Q ⟨z, ρ, M, R, E, hs, hm, h, hc, hE⟩ =>
    ⟨z, ρ, M, _, E, hs, hm, h, fun d M1 v H1 h1 m1 r1 e1 => ⟨z, ρ, M1, _, E, hs.ext e1, m1, h1, fun k M2 w H2 h2 m2 r2 e2 => by
      have h2 : stepD d k R M2 := h2
      have r1' := e2 _ _ r1
      unfold stepD at h2
      split at h2
      · cases r2
        cases r1' with
        | tup s ra =>
          refine ⟨_, _, _, rfl, rfl, s, ?_⟩
          rcases h2 with ⟨ek, q⟩ | ⟨ek, q⟩
          · exact .inl ⟨ek, hc _ _ _ _ q m2 (.tup s ra) (e1.trans e2)⟩
          · exact .inr ⟨ek, fun p hp => hc _ _ _ _ q (relM_new m2 hp) (.tup (SqT.of upd_same) ((ext_new m2 hp).all ra.reverse)) ((e1.trans e2).trans (ext_new m2 hp))⟩
      · exact h2.elim, hE.ext e1⟩, hE⟩
section
variable {ρ : Sl} {R : PD} {E : XP} {M : MS} {te ts : DTE}
theorem v_step : dStep te ts ρ R E M = te ρ (fun d M1 => ts ρ (fun k M2 => stepD d k R M2) E M1) E M := (rfl)
end
end L2.DL
/-! DLzb: the law's end with the script's sizes -/
namespace L2.DL
open PySem PySem.Spec PyProof.Rows
variable [Tbs]
def gLawB (g : G) : Prop := ∀ ns : List Int, ns.length ≤ 63 → (∀ k, k ∈ ns → Builtin.Int.intBits k ≤ 1048576) → g [.scr ns] (fun d _ => d = .bl true) (fun _ _ => False) (fun _ => none)
theorem law_endB {P : Program} {w : World} {K : PySem.W.Frag} {mg mb : Str → Option Value} {k : Nat} {fa a : Addr} {fd : FuncData} {x : Str} {g : G} {s₁ : Shared} {vs : List Value} {ns : List Int}
    (KX : K.In s₁.heap) (hns : s₁.heap.Ns mainGlobals mg) (hb : s₁.heap.Ns builtinsNs mb) (hbb : ∀ x : Str, x ≠ "__name__" → mb x = bootBuiltins x) (hlim : s₁.heap.NoLimit) (hg : s₁.gens = #[])
    (ha : s₁.heap.get? a = some { cls := .type "list", data := .seq vs.toArray }) (hi : IntsAre vs ns) (hl : ns.length ≤ 63) (hr : Room k callerA)
    (F : ∀ base : Heap, K.In base → base.Ns mainGlobals mg → FnD P w K mg base k fa fd [x] g) (hbind : ∀ (s : Shared) (u : Value), BindsTo s fd ⟨[u], []⟩ [(x, u)]) (hgl : g [.scr ns] (fun d _ => d = .bl true) (fun _ _ => False) (fun _ => none)) (hT : Tbs.T = []) :
    codeAny (model P w) callerA (.call (.ref fa) ⟨[.ref a], []⟩) (fun r s' => r = .ok (.ret (.bool true)) ∧ OldK s₁.heap s'.heap ∧ s'.os = s₁.os ∧ AllBare s'.gens) s₁ := by
  have hl2 : ns.length ≤ sizeLine := Nat.le_trans hl (by decide)
  have rv := vals_ints hi
  have lv := hi.length
  have main : ∀ H : Hp, Only H → Sc K H a (ns.map V.int) → HOk P w H s₁.heap → (∀ b, H b ≠ none → b = a) → (H a ≠ none → K.lookup a = none) →
      codeAny (model P w) callerA (.call (.ref fa) ⟨[.ref a], []⟩) (fun r s' => r = .ok (.ret (.bool true)) ∧ OldK s₁.heap s'.heap ∧ s'.os = s₁.os ∧ AllBare s'.gens) s₁ := by
    intro H hO hS hok hA hK
    have nd : ∀ {b : Addr} {o : Obj} {es : Array DictEntry} {ep : Nat}, s₁.heap.get? b = some o → o.data = .dict es ep → H b = none := by
      intro b o es ep e d
      by_cases q : H b = none
      · exact q
      · have e' := hA b q
        subst e'
        rw [ha] at e
        cases e
        exact (Data.noConfusion d)
    have toB : ∀ {b : Addr} {o : Obj}, s₁.heap.get? b = some o → H b = none → (hidT s₁.heap H).get? b = some o := fun e n => hidT_get e n
    have nsB : ∀ {b : Addr} {m : Str → Option Value}, s₁.heap.Ns b m → (hidT s₁.heap H).Ns b m := fun {b m} ⟨o, es, ep, e, d, r⟩ => ⟨o, es, ep, toB e (nd e d), d, r⟩
    have kB : K.In (hidT s₁.heap H) := by
      intro b o e
      refine toB (KX b o e) ?_
      by_cases q : H b = none
      · exact q
      · have e' := hA b q
        subst e'
        rw [hK q] at e; cases e
    have md : Mod K mg (hidT s₁.heap H) := ⟨kB, nsB hns, ⟨mb, nsB hb, hbb⟩, let ⟨mc, l1, l2⟩ := hlim; ⟨mc, nsB l1, l2⟩⟩
    have ev : Env0 P w K mg (hidT s₁.heap H) callerA [] s₁ H := ⟨rfl, md, fun b o e => of_hidT e, Nat.le_of_eq (hidT_size _ _), trivial, fun b hb => by simp [frs] at hb, hok, .of_eq hg⟩
    have sp : spD K g [.ref a] H (fun v _ => v = .bl true) (fun _ _ _ => False) := by
      refine ⟨fun _ => none, [.scr ns], fun _ => none, _, _, .cons (.scr hS) .nil, ⟨fun b mo e => by simp at e, fun b ws e => by simp at e, fun p hp => by rw [hT] at hp; cases hp⟩, hgl, ?_, ?_⟩
      · rintro d M' v H' rfl m r e
        cases r
        rfl
      · intro x M' cls d H' f
        exact f.elim
    refine codeAny_mono ((F _ kB (nsB hns)).run callerA [] s₁ H ⟨[.ref a], []⟩ [.ref a] [.ref a] _ _ hr rfl ev (hbind s₁ (.ref a)) (.cons rfl .nil) sp) fun r s' h => ?_
    cases r with
    | error e =>
      obtain ⟨_, _, _, _, _, _, _, _, _, _, _, _, f⟩ := h
      exact f.elim
    | ok fl =>
      cases fl with
      | next => exact h.elim
      | brk => exact h.elim
      | cont => exact h.elim
      | ret u =>
        obtain ⟨v, H', os, bare, un, hok', r', q⟩ := h
        have q' : v = .bl true := q
        subst q'
        obtain rfl : u = Value.bool true := r'
        refine ⟨rfl, OldK.of_keep fun b o e => ?_, os, bare⟩
        by_cases q : H b = none
        · exact un.keep b o e q (by simp [frs]) (by simp)
        · rcases hO b with z | ⟨ob, xs, z⟩
          · exact absurd z q
          · have z2 := un.frzs b ob _ z
            obtain ⟨e1, _⟩ := hok b _ z
            obtain ⟨e2, _⟩ := hok' b _ z2
            rw [e] at e1
            cases e1
            exact e2
  cases hk : K.lookup a with
  | some o =>
    have e := KX a o hk
    rw [ha] at e
    cases e
    exact main (fun _ => none) (fun _ => .inl rfl) (.inr ⟨_, vs.toArray, _, hk, rfl, rfl, rfl, by rw [List.size_toArray, lv]; exact hl2, by simpa using rv⟩) (fun b u z => by simp at z) (fun b z => absurd rfl z) fun z => absurd rfl z
  | none =>
    refine main (fun b => if b = a then some (.frz { cls := .type "list", data := .seq vs.toArray } (.lst (ns.map V.int))) else none) (fun b => ?_) (.inl ⟨{ cls := .type "list", data := .seq vs.toArray }, if_pos rfl⟩) (fun b u z => ?_) (fun b z => ?_) fun _ => hk
    · by_cases hb : b = a
      · exact .inr ⟨_, _, if_pos hb⟩
      · exact .inl (if_neg hb)
    · by_cases hb : b = a
      · subst hb
        have z' := (if_pos rfl).symm.trans z
        cases z'
        exact ⟨ha, by rw [List.length_map]; exact hl2, vs, _, rv, ha⟩
      · have z' := (if_neg hb).symm.trans z
        cases z'
    · by_cases hb : b = a
      · exact hb
      · exact absurd (if_neg hb) z
theorem walkDB {l : PySem.W.OpenLaw} {k : Nat} {q : Program} {loose : List Str} {XP : (Str → Option Value) → Heap → Prop} {YP : World → Heap → Prop} {d : DefRec} {K : Params → PySem.W.Frag} {g : G} {x : Str}
    (hn : l.most = some 63) (hdf : d.params.defaults = []) (hr : Room k callerA) (hY : ∀ (w : World) (h : Heap), YP w h → (K w.params).In h)
    (F : ∀ (w : World) (mg : Str → Option Value) (fa : Addr) (h : Heap), (K w.params).In h → h.Ns mainGlobals mg → mg d.name = some (.ref fa) →
      ∃ fd : FuncData, (∀ (s : Shared) (u : Value), BindsTo s fd ⟨[u], []⟩ [(x, u)]) ∧
        ∀ base : Heap, (K w.params).In base → base.Ns mainGlobals mg → FnD l.prog w (K w.params) mg base k fa fd [x] g) (hgl : gLawB g) (hT : Tbs.T = [] := by rfl) :
    PySem.W.WalkO q loose XP YP l.row.toRowW d [] (fun f vs => PySem.call f vs) := by
  refine Att.attach_callB hn hdf fun w s₀ s₁ mg mb fa o pm cd doc a vs ns G Y ho hd hcd hmg hobj hints hlen hbits hg => ?_
  obtain ⟨fd, hb, hF⟩ := F w mg fa _ (hY w _ Y) G.T.g hmg
  exact law_endB (hY w _ Y) G.T.g G.T.b G.T.builtins G.T.nolimit hg hobj hints hlen hr hF hb (hgl ns hlen hbits) hT
end L2.DL
/-! DLzc: a number of any size times a small one -/
namespace L2.DL
open PySem PySem.Spec PyProof.Rows
variable [Tbs]
def mulSD : D → D → PD → MS → Prop
  | .int i, .int j, R, M => (-(2 ^ 64) < j ∧ j < 2 ^ 64) ∧ R (.int (i * j)) M
  | _, _, _, _ => False
theorem o_mulS {X : Cx} : OpD X (binaryOp .Mult) mulSD := by
  refine ⟨_, L2.op_mul, fun z H M x y vx vy R Q m rx ry h hc => ?_⟩
  unfold mulSD at h
  split at h
  · cases rx; cases ry
    exact ⟨_, _, rfl, rfl, .inr h.1, hc.here h.2 m (.int _)⟩
  · exact h.elim
section
variable {M : MS} {R : PD} {i j : Int}
theorem q_mulS : mulSD (.int i) (.int j) R M = ((-(2 ^ 64) < j ∧ j < 2 ^ 64) ∧ R (.int (i * j)) M) := (rfl)
end
end L2.DL
/-! DLzd: exceptions over data: raise, try, isinstance and fields of the one that is caught -/
namespace L2
open PySem PySem.Spec PyProof.Rows
/-! ### __init__ of one or two fields -/
/-- what __init__ leaves -/
def spI (C : Addr) (ps : List Str) : Sp := fun vs H Q _ => ∃ a ws, vs = V.ref a :: ws ∧ ws.length = ps.length ∧ H a = some (exo a C none) ∧ ∀ dx, H dx = none → dx ≠ a → Q .non (upd (upd H dx (exd dx (ps.zip ws).reverse)) a (exo a C (some dx)))
theorem sp_len {C : Addr} {ps : List Str} : ∀ vs H Q E, spI C ps vs H Q E → vs.length = ("self" :: ps : List Str).length := by
  rintro vs H Q E ⟨a, ws, rfl, h, _⟩
  rw [List.length_cons, List.length_cons, h]
theorem init1 {K : PySem.W.Frag} {C : Addr} {T : List Value} {newId : String} {f : Str} {N : List Str} (O : Ow K C T newId) (hno : PySem.W.findIn K (.ref C) f = some none) {vs : List V} {H : Hp} {Q : VK} {E : XK} (h : spI C [f] vs H Q E) :
    tSeq (tDrop (tBI K T newId (tCons (tVar 0) tNil))) (tFldX K T newId f (tVar 0) (tVar 1)) { nx := fun _ H' => Q .non H', rt := Q } (start ("self" :: f :: N) vs) H := by
  obtain ⟨a, ws, rfl, hl, e, q⟩ := h
  match ws, hl with
  | [w], _ =>
    refine ⟨.ref a, rfl, a, C, [], rfl, by decide, O, e, ?_⟩
    refine ⟨w, rfl, .ref a, rfl, a, C, rfl, O, hno, .inl ⟨e, fun dx n ne => q dx n ne⟩⟩
theorem init2 {K : PySem.W.Frag} {C : Addr} {T : List Value} {newId : String} {f g : Str} {N : List Str} (O : Ow K C T newId) (hno : PySem.W.findIn K (.ref C) f = some none) (hno2 : PySem.W.findIn K (.ref C) g = some none) {vs : List V} {H : Hp} {Q : VK} {E : XK} (h : spI C [f, g] vs H Q E) :
    tSeq (tDrop (tBI K T newId (tCons (tVar 0) tNil))) (tSeq (tFldX K T newId f (tVar 0) (tVar 1)) (tFldX K T newId g (tVar 0) (tVar 2))) { nx := fun _ H' => Q .non H', rt := Q } (start ("self" :: f :: g :: N) vs) H := by
  obtain ⟨a, ws, rfl, hl, e, q⟩ := h
  match ws, hl with
  | [w, u], _ =>
    refine ⟨.ref a, rfl, a, C, [], rfl, by decide, O, e, ?_⟩
    refine ⟨w, rfl, .ref a, rfl, a, C, rfl, O, hno, .inl ⟨e, fun dx n ne => ?_⟩⟩
    refine ⟨u, rfl, .ref a, rfl, a, C, rfl, O, hno2, .inr ⟨dx, [(f, w)], upd_same, by rw [upd_ne ne]; exact upd_same, by show (1 : Nat) ≤ 900; decide, ?_⟩⟩
    have e2 : upd (upd (upd H dx (exd dx [(f, w)])) a (exo a C (some dx))) dx (exd dx [(g, u), (f, w)]) = upd (upd H dx (exd dx [(g, u), (f, w)])) a (exo a C (some dx)) := by
      funext b
      by_cases hb : b = dx
      · subst hb; rw [upd_same, upd_ne ne, upd_same]
      · rw [upd_ne hb]
        by_cases ha : b = a
        · subst ha; rw [upd_same, upd_same]
        · rw [upd_ne ha, upd_ne ha, upd_ne hb, upd_ne hb]
    show Q .non _
    rw [e2]
    exact q dx n ne
/-! ### isinstance of the one that is caught -/
def rIsX (K : PySem.W.Frag) (D a dd : Addr) : List V → Hp → VK → Prop := fun xs H Q => ∃ c, xs = [V.ref a, c] ∧ (∃ fs, H dd = some (.xd fs)) ∧
  ((∃ cv b, (∀ u, RelV c u → u = cv) ∧ PySem.W.kitOne K (.ref D) cv = some b ∧ Q (.bl b) H) ∨
    ∃ p cs cvs b, c = .ref p ∧ H p = some (.tup cs) ∧ (∀ us, Vals cs us → us = cvs) ∧ PySem.W.kitAny K (.ref D) cvs = some b ∧ Q (.bl b) H)
theorem call_isX {X : Cx} {a D dd : Addr} {oe : Obj} {pn : List (Addr × Obj)} (C : ExcC X.K D) (hz : Zc (.ref D) (some dd) oe) (hf : ∃ vs, oe.data = .fields vs) : CallR (X.suite a ((a, oe) :: pn)) (.builtin "isinstance") (rIsX X.K D a dd) := by
  intro pins s σ H xs us Q I r h
  obtain ⟨c, rfl, ⟨fs, ed⟩, h⟩ := h
  cases r with
  | cons rx rr =>
    cases rr with
    | cons rt rr =>
      cases rr
      cases rx
      obtain ⟨hget, _⟩ := I.pin (a, oe) (List.mem_append.mpr (.inl List.mem_cons_self))
      obtain ⟨vs, hv⟩ := hf
      have hx : ObjOk X.prog X.w H s.heap dd (.xd fs) := I.hok dd _ ed
      obtain ⟨mA, hns, hr⟩ := hx
      obtain ⟨od, ho, _⟩ := lookIn_ns hns
      have J : PySem.W.InstAt s.heap a oe D (some od) := ⟨hget, hz.1, by unfold PySem.W.notCls; rw [hv] <;> rfl, by rw [hz.2]; exact ho⟩
      have hcl : (PySem.W.clsIn X.K D).isSome = true := by
        obtain ⟨cd, hc, _⟩ := PySem.W.any_some C.hd
        rw [hc]; rfl
      have Z : PySem.W.KitX X.K (.ref a) (.ref D) (fun h => PySem.W.InstAt h a oe D (some od)) := PySem.W.kitx_exc hcl C.hg C.hk C.hs C.ha C.hn C.ht C.hm
      rcases h with ⟨cv, b, hcv, e, q⟩ | ⟨p, cs, cvs, b, rfl, hp, hcv, e, q⟩
      · have ec := hcv _ rt
        subst ec
        exact PySem.W.kia_one Z I.kIn J e (fun z => nomatch z) fun tk => ⟨.bl b, H, I.kept (t' := tk) fun _ _ z => z, rfl, q⟩
      · cases rt
        have ht : ObjOk X.prog X.w H s.heap p (.tup cs) := I.hok p _ hp
        obtain ⟨hz2, us2, rv, o, eo, ec, n, edd⟩ := ht
        have := hcv _ rv
        subst this
        obtain ⟨oc, od2, odt, osl⟩ := o
        dsimp only at ec edd
        subst ec edd
        exact PySem.W.kia_tup Z I.kIn J eo e (fun z => nomatch z) fun tk => ⟨.bl b, H, I.kept (t' := tk) fun _ _ z => z, rfl, q⟩
end L2

namespace L2.DL
open PySem PySem.Spec PyProof.Rows
variable [Tbs]
/-- an own exception class with an own __init__ of the fields ps -/
structure XInit (P : Program) (w : World) (K : PySem.W.Frag) (mg : Str → Option Value) (base : Heap) (name : Str) (ps : List Str) : Prop where
  ex : ∃ (C fI : Addr) (fd : FuncData) (T : List Value) (B newId initId : String), ExcBaseFacts B newId initId T ∧ Ow K C T newId ∧ mg name = some (.ref C) ∧ PySem.W.nsIn K mainGlobals name = some (some (.ref C)) ∧
    PySem.W.findIn K (.ref C) "__init__" = some (some (.ref fI)) ∧ PySem.W.typeIn K (.ref fI) = some (.type "function") ∧ Binds K fd ("self" :: ps) [] ∧ FnOk P w K mg base (L2.CX P w) 1 fI fd ("self" :: ps) (spI C ps)
section
variable {K : ZK} {H : Hp} {M : MS}
theorem relK_zip : ∀ {ps : List Str} {vs : List V} {ds : List D}, RelA K H M vs ds → RelK K H M (ps.zip vs) (ps.zip ds)
  | [], _, _, _ => by rw [List.zip_nil_left, List.zip_nil_left]; exact .nil
  | _ :: _, _, _, .nil => .nil
  | p :: ps, _, _, .cons a b => .cons a (relK_zip b)
theorem RelK.append {κ : Type} : ∀ {a b : List (κ × V)} {c d : List (κ × D)}, RelK K H M a c → RelK K H M b d → RelK K H M (a ++ b) (c ++ d)
  | _, _, _, _, .nil, s => s
  | _, _, _, _, .cons r t, s => .cons r (RelK.append t s)
theorem RelK.rev {κ : Type} : ∀ {a : List (κ × V)} {c : List (κ × D)}, RelK K H M a c → RelK K H M a.reverse c.reverse
  | _, _, .nil => .nil
  | _, _, .cons r t => by
    rw [List.reverse_cons, List.reverse_cons]
    exact (RelK.rev t).append (.cons r .nil)
theorem RelK.look : ∀ {a : List (Str × V)} {c : List (Str × D)} {f : Str} {d : D}, RelK K H M a c → c.lookup f = some d → ∃ v, a.lookup f = some v ∧ Rel K H M v d
  | _, _, _, _, .nil, e => by cases e
  | _, _, f, d, .cons (k := k) r t, e => by
    rw [List.lookup_cons] at e ⊢
    split at e
    · cases e
      exact ⟨_, rfl, r⟩
    · exact RelK.look t e
end
section
variable {X : Cx} {W : WX} {e : Expr} {es : List Expr} {t : DTA} {name : Str} {ps : List Str} {p pos pos2 : Pos}
/-- raise C(e, ..) -/
def dRaise (name : Str) (ps : List Str) (t : DTA) : DTS := fun De ρ M => t ρ (fun ds M1 => ds.length = ps.length ∧ De.ex ⟨name, (ps.zip ds).reverse⟩ ρ M1) De.ex M
theorem ds_raise (x : XInit X.prog X.w X.K X.mg X.base name ps) (hc : X.calm = true) (hr : Room 2 X.A) (tk : Takes X W) (ha : DA X W (e :: es) t) (hps : ps.length ≤ 900 := by decide) (hg : Gl X name := by rfl)
    (hdb : (name == ("__debug__" : Str)) = false := by decide) (he : starEach (e :: es) X.env = (false, eval e X.env) :: starEach es X.env := by rfl) (hpl : (backTo pos (starEach es X.env)).any (·.1) = false := by rfl) :
    DS X W (.Raise (some (.Call (.Name name p) (e :: es) [] pos)) none pos2) (dRaise name ps t) := by
  obtain ⟨C, fI, fd, T, B, newId, initId, G, O, hm, hns, iC, tI, hb, F1⟩ := x.ex
  refine impS (ps_raise hc tk (pmk_ownX (ds := []) (dvs := []) G O iC tI F1 hr hb .nil (fun _ _ _ _ _ _ _ h => by
    obtain ⟨_, _, _, _, _, _, _, _, _, _, _, _, z⟩ := h
    exact z.elim) hg hm ha hdb he hpl)) fun De σ H ⟨z, ρ, M, Dd, hs, hm2, h, L⟩ => ?_
  refine ⟨z, ρ, M, _, _, hs, hm2, h, fun ds M1 vs H1 h1 m1 r1 e1 => ?_, L.ex⟩
  obtain ⟨hl, hx⟩ := h1
  have hv : vs.length = ps.length := r1.length.trans hl
  refine ⟨by omega, fun a ha => ⟨a, vs ++ [], rfl, by rw [List.append_nil]; exact hv, upd_same, fun dx hdx hne => ⟨rfl, dx, (ps.zip (vs ++ [])).reverse, upd_same, by rw [upd_ne hne]; exact upd_same, ?_, ?_⟩⟩⟩
  · rw [upd_ne hne] at hdx; exact hdx
  · rw [upd_ne hne] at hdx
    have eH : upd (del (upd (upd (upd H1 a (exo a C none)) dx (exd dx (ps.zip (vs ++ [])).reverse)) a (exo a C (some dx))) a) dx (.xd (ps.zip (vs ++ [])).reverse) = upd H1 dx (.xd (ps.zip (vs ++ [])).reverse) := by
      funext b
      by_cases hb : b = dx
      · subst hb; rw [upd_same, upd_same]
      · rw [upd_ne hb, upd_ne hb]
        by_cases hba : b = a
        · subst hba; rw [del_same, ha]
        · rw [del_ne hba, upd_ne hba, upd_ne hb, upd_ne hba]
    rw [eH, List.append_nil]
    exact L.ex _ ρ M1 _ _ _ _ hx (relM_new m1 hdx) (hs.ext (e1.trans (ext_new m1 hdx))) ⟨⟨C, rfl, hns⟩, dx, _, rfl, upd_same, m1.free hdx, ((ext_new m1 hdx).keys (relK_zip r1)).rev⟩ (e1.trans (ext_new m1 hdx))
end

/-- what the suite of an except clause says: C the class that came, a the exception, dx its dict -/
abbrev DTX := Str → Addr → Addr → DTS
def dTry (i : Nat) (Ds : List Str) (catches : Str → Bool) (t : DTS) (ts : DTX) : DTS := fun De ρ M =>
  t { nx := De.nx, rt := De.rt, bk := De.bk, ct := De.ct,
      ex := fun x ρ' M' => x.C ∈ Ds ∧ if catches x.C = true then ∀ a dx, M' a = none → M' dx = none → a ≠ dx →
          ts x.C a dx { nx := fun ρ2 M2 => De.nx (ρ2.set i none) M2, rt := De.rt, bk := fun ρ2 M2 => De.bk (ρ2.set i none) M2, ct := fun ρ2 M2 => De.ct (ρ2.set i none) M2 } (ρ'.set i (some (.ref a))) (um M' dx (.xd x.fs))
        else De.ex x ρ' M' } ρ M
theorem ext_xd {K : ZK} {H : Hp} {M : MS} {dx : Addr} {gs : List (Str × V)} {fs : List (Str × D)} (m : RelM K H M) (e : H dx = some (.xd gs)) (n : M dx = none) (r : RelK K H M gs fs) : Ext K H M H (um M dx (.xd fs)) ∧ RelM K H (um M dx (.xd fs)) := by
  have f : FoExt K H M K H (um M dx (.xd fs)) := fun q o ho s => by
    have ne : q ≠ dx := fun z => by
      have h := s.2
      rw [z, e] at h; cases h; cases ho
    exact ⟨⟨by rw [um_ne ne]; exact s.1.1, s.1.2⟩, s.2⟩
  have x : Ext K H M H (um M dx (.xd fs)) := Ext.of (fun _ _ s => s) f fun _ _ s => s
  refine ⟨x, fun a u q => ?_, fun a vs q => ?_, m.tab.mono f⟩
  · by_cases ha : a = dx
    · subst ha
      rw [um_same] at q
      cases q
      exact ⟨gs, e, x.keys r⟩
    · rw [um_ne ha] at q
      exact (m.at' a u q).ext x rfl
  · obtain ⟨q1, q2⟩ := m.hid a vs q
    have ne : a ≠ dx := fun z => by rw [z, e] at q2; cases q2
    exact ⟨by rw [um_ne ne]; exact q1, q2⟩
section
variable {X : Cx} {x n : Str} {c : Value} {i : Nat} {body suite : List Stmt} {b₀ : Stmt} {np pos pos' : Pos} {t : DTS} {ts : DTX} {Wout : WX} {Ds : List Str} {catches : Str → Bool}
theorem ds_try (i : Nat) (hN : X.N.Nodup) (hs : X.stack = X.env :: X.outer) (hf : X.env.frame = some X.env.locals) (tk : Takes X Wout) (hc : Names X x c)
    (hex : ∀ C ∈ Ds, ∀ aC, PySem.W.nsIn X.K mainGlobals C = some (some (.ref aC)) → PySem.W.exmOne X.K (.ref aC) c = some (catches C))
    (hb : ∀ (W : WX) (pn : List (Addr × Obj)) (xe : Value → Shared → Prop), Takes (X.tr pn xe) W → PassesOwn (model X.prog X.w) X.A X.env xe → DSs (X.tr pn xe) W body t)
    (hsu : ∀ (C : Str), C ∈ Ds → ∀ (aC a dx : Addr) (oe : Obj) (pn : List (Addr × Obj)), PySem.W.nsIn X.K mainGlobals C = some (some (.ref aC)) → Zc (.ref aC) (some dx) oe → (∃ vs, oe.data = .fields vs) → DSs (X.suite a ((a, oe) :: pn)) W0 (b₀ :: suite) (ts C a dx))
    (hi : X.N[i]? = some n := by rfl) (hln : X.env.kindOf n = some .local := by rfl) :
    DS X Wout (.Try body [.ExceptHandler (some (.Name x np)) (some n) (b₀ :: suite) pos'] [] [] pos) (dTry i Ds catches t ts) := by
  refine impS (ps_try_as (tb := fun W => liftS X.K W t) (ts := fun a cls d De σ H => ∃ C aC dx, C ∈ Ds ∧ cls = .ref aC ∧ PySem.W.nsIn X.K mainGlobals C = some (some (.ref aC)) ∧ d = some dx ∧ liftS X.K W0 (ts C a dx) De σ H) (Wout := Wout) hs hf hN hi hln hc tk hb
    fun a oe cls d pn hz hd => ⟨fun pins s σ H De I h => ?_⟩) fun De σ H h => ?_
  · obtain ⟨C, aC, dx, hC, rfl, hns, rfl, h⟩ := h
    exact (hsu C hC aC a dx oe pn hns hz hd).run pins s σ H De I h
  · obtain ⟨z, ρ, M, Dd, hs2, hm, h, L⟩ := h
    refine ⟨z, ρ, M, _, hs2, hm, h, L.nx, L.rt, L.bk, L.ct, ?_⟩
    rintro y ρ' M' cls d σ' H' ⟨hC, q⟩ m' s' rx e'
    obtain ⟨⟨aC, rfl, hns⟩, dx, gs, rfl, hdx, hMdx, rk⟩ := rx
    refine ⟨catches y.C, hex _ hC aC hns, fun hb1 a ha => ?_, fun hb1 => ?_⟩
    · rw [if_pos hb1] at q
      obtain ⟨e2, m2⟩ := ext_xd m' hdx hMdx rk
      have ne : a ≠ dx := fun w => by rw [w, hdx] at ha; cases ha
      have L2 := L.ext (e'.trans e2)
      refine ⟨y.C, aC, dx, hC, rfl, hns, rfl, z, _, _, _, (s'.ext e2).set i (.ref a), m2, q a dx (m'.free ha) hMdx ne, ?_, L2.rt, ?_, ?_, fun _ _ _ _ _ _ _ w => w.elim⟩
      · exact fun ρ2 M2 σ2 H2 w m s ee => L2.nx _ _ _ _ w m (s.clear i) ee
      · exact fun ρ2 M2 σ2 H2 w m s ee => L2.bk _ _ _ _ w m (s.clear i) ee
      · exact fun ρ2 M2 σ2 H2 w m s ee => L2.ct _ _ _ _ w m (s.clear i) ee
    · rw [if_neg (by rw [hb1]; exact Bool.false_ne_true)] at q
      exact L.ex _ _ _ _ _ _ _ q m' s' ⟨⟨aC, rfl, hns⟩, dx, gs, rfl, hdx, hMdx, rk⟩ e'
end

/-! ### in the suite -/
def vOf : Value → V
  | .ref a => .ref a
  | .type n => .ty n
  | _ => .non
/-- classes by their names -/
inductive TN (X : Cx) : List Expr → List (Str × Value) → Prop
  | nil : TN X [] []
  | cons {x : Str} {u : Value} {pos : Pos} {es : List Expr} {l : List (Str × Value)} (hg : Gl X x) (hm : X.mg x = some u ∨ (X.mg x = none ∧ bootBuiltins x = some u ∧ x ≠ "__name__")) (hu : RelV (vOf u) u) (hd : (x == ("__debug__" : Str)) = false) (r : TN X es l)
      (he : starEach (.Name x pos :: es) X.env = (false, eval (.Name x pos) X.env) :: starEach es X.env) : TN X (.Name x pos :: es) ((x, u) :: l)
theorem tn_pe {X : Cx} {x : Str} {u : Value} {pos : Pos} (hg : Gl X x) (hm : X.mg x = some u ∨ (X.mg x = none ∧ bootBuiltins x = some u ∧ x ≠ "__name__")) (hu : RelV (vOf u) u) (hd : (x == ("__debug__" : Str)) = false) : PE X (.Name x pos) (tC (vOf u)) := by
  rcases hm with hm | ⟨hm, hv, hn⟩
  · exact pe_glob hg hm hu hd
  · exact pe_bltn hg hm hv hu hn hd
def tNames (vs : List V) : TA := fun _ H Q => Q vs H
theorem TN.pa {X : Cx} : ∀ {es : List Expr} {l : List (Str × Value)}, TN X es l → PA X es (tNames (l.map fun y => vOf y.2))
  | _, _, .nil => ⟨fun pos pins s σ H Q I h => pa_nil.run pos pins s σ H Q I h⟩
  | _, _, .cons hg hm hu hd r he => ⟨fun pos pins s σ H Q I h => (pa_cons (tn_pe hg hm hu hd) (TN.pa r) he).run pos pins s σ H Q I h⟩
theorem vOf_one {u v : Value} (h : RelV (vOf u) u) (k : RelV (vOf u) v) : v = u := by
  cases u with
  | ref a => cases k; rfl
  | type n => cases k; rfl
  | none => cases k; rfl
  | _ => cases h
theorem TN.rel {X : Cx} : ∀ {es : List Expr} {l : List (Str × Value)}, TN X es l → ∀ us, Vals (l.map fun y => vOf y.2) us → us = l.map (·.2)
  | _, _, .nil, us, h => by cases h; rfl
  | _, _, .cons hg hm hu hd r he, us, h => by
    cases h with
    | cons a b => rw [TN.rel r _ b, vOf_one hu a]; rfl
section
variable {X : Cx} {W : WX} {a dx aC : Addr} {oe : Obj} {pn : List (Addr × Obj)} {C x n : Str} {i : Nat} {pos p p2 p3 : Pos}
/-- isinstance(e, c), isinstance(e, (c, ..)): b what it says of the class C -/
def dIsX (a dx : Addr) (b : Bool) (i : Nat) : DTE := fun ρ R _ M => sl ρ i = some (.ref a) ∧ (∃ fs, M dx = some (.xd fs)) ∧ R (.bl b) M
theorem de_isX {b : Bool} {u : Value} (i : Nat) (hm : X.mg "isinstance" = none) (hz : Zc (.ref aC) (some dx) oe) (hf : ∃ vs, oe.data = .fields vs) (E : ExcC X.K aC) (hk : PySem.W.kitOne X.K (.ref aC) u = some b)
    (hx : X.mg x = some u ∨ (X.mg x = none ∧ bootBuiltins x = some u ∧ x ≠ "__name__")) (hu : RelV (vOf u) u) (hg : Gl X x := by rfl) (hd : (x == ("__debug__" : Str)) = false := by decide)
    (hN : X.N[i]? = some n := by rfl) (hv : Vis X.env.scope n := by first | exact Or.inl rfl | exact Or.inr (Or.inl rfl) | exact Or.inr (Or.inr rfl)) (hgi : Gl X "isinstance" := by rfl)
    (hd1 : (n == ("__debug__" : Str)) = false := by decide) (hcd : (n == ("__classdict__" : Str)) = false := by decide) (hb : bootBuiltins "isinstance" = some (.builtin "isinstance") := by exact bt_isinstance)
    (s1 : starEach [.Name n p2, .Name x p3] X.env = (false, eval (.Name n p2) X.env) :: starEach [.Name x p3] X.env := by rfl) (s2 : starEach [.Name x p3] X.env = (false, eval (.Name x p3) X.env) :: starEach [] X.env := by rfl) (hpl : (backTo pos (starEach [.Name x p3] X.env)).any (·.1) = false := by rfl) :
    DE (X.suite a ((a, oe) :: pn)) W (.Call (.Name "isinstance" p) [.Name n p2, .Name x p3] [] pos) (dIsX a dx b i) := by
  refine ⟨fun pins s σ H Q I ⟨z, ρ, M, R, _, hs, hm2, ⟨hsl, ⟨fs, hdx⟩, h⟩, hc, _⟩ => ?_⟩
  have pe := pe_callB (X := X.suite a ((a, oe) :: pn)) (p := p) (pos := pos) (call_isX (X := X) (pn := pn) (a := a) E hz hf) hgi hm hb (pa_cons (pe_var (i := i) hN hv hd1 hcd) (pa_cons (tn_pe (X := X.suite a ((a, oe) :: pn)) hg hx hu hd) pa_nil s2) s1) (by decide) (by decide) s1 hpl
  refine pe.run pins s σ H Q I ?_
  obtain ⟨v, e1, r1⟩ := hs.2 i _ (sl_get hsl)
  cases r1
  obtain ⟨gs, eh, _⟩ := hm2.at' _ _ hdx
  exact ⟨_, e1, _, rfl, ⟨gs, eh⟩, .inl ⟨u, b, fun w k => vOf_one hu k, hk, hc.here h hm2 (.bl _)⟩⟩
theorem de_isXT {b : Bool} {es : List Expr} {l : List (Str × Value)} {x1 : Nat} (i : Nat) (hm : X.mg "isinstance" = none) (hz : Zc (.ref aC) (some dx) oe) (hf : ∃ vs, oe.data = .fields vs) (E : ExcC X.K aC) (tn : TN (X.suite a ((a, oe) :: pn)) es l) (hk : PySem.W.kitAny X.K (.ref aC) (l.map (·.2)) = some b)
    (hz1 : l.length ≤ sizeLine := by decide) (hN : X.N[i]? = some n := by rfl) (hv : Vis X.env.scope n := by first | exact Or.inl rfl | exact Or.inr (Or.inl rfl) | exact Or.inr (Or.inr rfl)) (hgi : Gl X "isinstance" := by rfl)
    (hd1 : (n == ("__debug__" : Str)) = false := by decide) (hcd : (n == ("__classdict__" : Str)) = false := by decide) (hb : bootBuiltins "isinstance" = some (.builtin "isinstance") := by exact bt_isinstance)
    (s1 : starEach [.Name n p2, .Tuple es x1 p3] X.env = (false, eval (.Name n p2) X.env) :: starEach [.Tuple es x1 p3] X.env := by rfl) (s2 : starEach [.Tuple es x1 p3] X.env = (false, eval (.Tuple es x1 p3) X.env) :: starEach [] X.env := by rfl) (hpl : (backTo pos (starEach [.Tuple es x1 p3] X.env)).any (·.1) = false := by rfl) :
    DE (X.suite a ((a, oe) :: pn)) W (.Call (.Name "isinstance" p) [.Name n p2, .Tuple es x1 p3] [] pos) (dIsX a dx b i) := by
  refine ⟨fun pins s σ H Q I ⟨z, ρ, M, R, _, hs, hm2, ⟨hsl, ⟨fs, hdx⟩, h⟩, hc, _⟩ => ?_⟩
  have pe := pe_callB (X := X.suite a ((a, oe) :: pn)) (p := p) (pos := pos) (call_isX (X := X) (pn := pn) (a := a) E hz hf) hgi hm hb (pa_cons (pe_var (i := i) hN hv hd1 hcd) (pa_cons (pe_tup tn.pa) pa_nil s2) s1) (by decide) (by decide) s1 hpl
  refine pe.run pins s σ H Q I ?_
  obtain ⟨v, e1, r1⟩ := hs.2 i _ (sl_get hsl)
  cases r1
  obtain ⟨gs, eh, _⟩ := hm2.at' _ _ hdx
  refine ⟨_, e1, by rw [List.length_map]; exact hz1, fun q hq => ⟨_, rfl, ⟨gs, ?_⟩, .inr ⟨q, _, _, b, rfl, upd_same, fun us k => tn.rel us k, hk, ?_⟩⟩⟩
  · rw [upd_ne (ne_of_none eh hq)]; exact eh
  · exact hc _ _ _ _ h (relM_new hm2 hq) (.bl _) (ext_new hm2 hq)
/-- e.f -/
def dFldX (a dx : Addr) (f : Str) (te : DTE) : DTE := fun ρ R E M => te ρ (fun d M1 => d = .ref a ∧ ∃ fs v, M1 dx = some (.xd fs) ∧ fs.lookup f = some v ∧ R v M1) E M
theorem de_fldX {f : Str} {e : Expr} {te : DTE} (T : XfC X.K aC) (hno : PySem.W.findIn X.K (.ref aC) f = some none) (hz : Zc (.ref aC) (some dx) oe) (hf : ∃ vs, oe.data = .fields vs)
    (he : DE (X.suite a ((a, oe) :: pn)) W e te) (hb : attributeBase e f X.env (eval e X.env) = eval e X.env := by rfl) :
    DE (X.suite a ((a, oe) :: pn)) W (.Attribute e f pos) (dFldX a dx f te) :=
  imp (pe_xf (X := X) (pn := pn) (pos := pos) T hno hz hf he hb) fun σ H Q ⟨z, ρ, M, R, E, hs, hm, h, hc, hE⟩ =>
    ⟨z, ρ, M, _, E, hs, hm, h, fun d M1 v H1 h1 m1 r1 e1 => by
      obtain ⟨rfl, fs, y, hd, hl, q⟩ := h1
      cases r1
      obtain ⟨gs, eh, rk⟩ := m1.at' _ _ hd
      obtain ⟨w, el, rw⟩ := rk.look hl
      exact ⟨rfl, rfl, dx, gs, w, rfl, eh, el, hc _ _ _ _ q m1 rw e1⟩, hE⟩
end
/-- a class by its name -/
def cvG (mg : Str → Option Value) (s : Str) : Value := (mg s).getD ((bootBuiltins s).getD .none)
def TnF (mg : Str → Option Value) (T : Str) : Prop := (mg T = some (cvG mg T) ∨ (mg T = none ∧ bootBuiltins T = some (cvG mg T) ∧ T ≠ "__name__")) ∧ RelV (vOf (cvG mg T)) (cvG mg T)
theorem tnF_own {mg : Str → Option Value} {T : Str} {a : Addr} (h : mg T = some (.ref a)) : TnF mg T := by
  have e : cvG mg T = .ref a := by unfold cvG; rw [h]; rfl
  unfold TnF
  rw [e]
  exact ⟨.inl h, rfl⟩
theorem tnF_blt {mg : Str → Option Value} {T : Str} {n : String} (h : mg T = none) (hb : bootBuiltins T = some (.type n)) (hn : T ≠ "__name__") : TnF mg T := by
  have e : cvG mg T = .type n := by unfold cvG; rw [h, hb]; rfl
  unfold TnF
  rw [e]
  exact ⟨.inr ⟨h, hb, hn⟩, rfl⟩
theorem cvG_own {mg : Str → Option Value} {T : Str} {a : Addr} (h : mg T = some (.ref a)) : cvG mg T = .ref a := by unfold cvG; rw [h]; rfl
theorem cvG_blt {mg : Str → Option Value} {T : Str} {v : Value} (h : mg T = none) (hb : bootBuiltins T = some v) : cvG mg T = v := by unfold cvG; rw [h, hb]; rfl
theorem kitAny_nil {K : PySem.W.Frag} {t : Value} {f : Str → Bool} : PySem.W.kitAny K t [] = some (([] : List Str).any f) := rfl
theorem kitAny_cons {K : PySem.W.Frag} {t u : Value} {us : List Value} {f : Str → Bool} {T : Str} {Ts : List Str} (h : PySem.W.kitOne K t u = some (f T)) (r : PySem.W.kitAny K t us = some (Ts.any f)) : PySem.W.kitAny K t (u :: us) = some ((T :: Ts).any f) := by
  rw [List.any_cons]
  unfold PySem.W.kitAny
  rw [h]
  cases e : f T with
  | true => rfl
  | false => exact r
theorem TnF.names {X : Cx} {T : Str} (h : TnF X.mg T) (hg : Gl X T) (hd : (T == ("__debug__" : Str)) = false) : Names X T (cvG X.mg T) := ⟨hg, hd, h.1⟩
/-- the statements of a class -/
def clsS (s : Stmt) (j : Nat) : Stmt := match s with
  | .ClassDef (body := b) .. => b.getD j (.Pass ⟨0, 0, 0, 0⟩)
  | _ => .Pass ⟨0, 0, 0, 0⟩
theorem v_raise {name : Str} {ps : List Str} {t : DTA} {De : DEnds} {ρ : Sl} {M : MS} : dRaise name ps t De ρ M = t ρ (fun ds M1 => ds.length = ps.length ∧ De.ex ⟨name, (ps.zip ds).reverse⟩ ρ M1) De.ex M := by (rfl)
theorem v_isX {a dx : Addr} {b : Bool} {i : Nat} {ρ : Sl} {R : PD} {E : XP} {M : MS} : dIsX a dx b i ρ R E M = (sl ρ i = some (.ref a) ∧ (∃ fs, M dx = some (.xd fs)) ∧ R (.bl b) M) := by (rfl)
theorem v_fldX {a dx : Addr} {f : Str} {te : DTE} {ρ : Sl} {R : PD} {E : XP} {M : MS} : dFldX a dx f te ρ R E M = te ρ (fun d M1 => d = .ref a ∧ ∃ fs v, M1 dx = some (.xd fs) ∧ fs.lookup f = some v ∧ R v M1) E M := by (rfl)
theorem v_try {i : Nat} {Ds : List Str} {catches : Str → Bool} {t : DTS} {ts : DTX} {De : DEnds} {ρ : Sl} {M : MS} : dTry i Ds catches t ts De ρ M =
  t { nx := De.nx, rt := De.rt, bk := De.bk, ct := De.ct,
      ex := fun x ρ' M' => x.C ∈ Ds ∧ if catches x.C = true then ∀ a dx, M' a = none → M' dx = none → a ≠ dx →
          ts x.C a dx { nx := fun ρ2 M2 => De.nx (ρ2.set i none) M2, rt := De.rt, bk := fun ρ2 M2 => De.bk (ρ2.set i none) M2, ct := fun ρ2 M2 => De.ct (ρ2.set i none) M2 } (ρ'.set i (some (.ref a))) (um M' dx (.xd x.fs))
        else De.ex x ρ' M' } ρ M := by (rfl)
end L2.DL
/-! DLze: list(range(..)); chains of three -/
namespace L2
open PySem PySem.Spec PyProof.Rows
section
variable {X : Cx} {a b c d : Expr} {ta tb tc td : TE} {pos : Pos}
/-- a op1 b op2 c op3 d -/
def tChain3 (r r' r2 : R2) (ta tb tc td : TE) : TE := fun σ H Q => ta σ H fun x H1 => tb σ H1 fun y H2 => r x y H2 fun z H3 => ∃ k, z = .bl k ∧
  (if k = true then tc σ H3 fun w' H4 => r' y w' H4 fun z2 H5 => ∃ k2, z2 = .bl k2 ∧ (if k2 = true then td σ H5 fun u' H6 => r2 w' u' H6 Q else Q (.bl false) H5) else Q (.bl false) H3)
theorem pe_chain3 {op op' op2 : CmpOp} {r r' r2 : R2} (ho : OpR X (compareOp op) r) (ho' : OpR X (compareOp op') r') (ho2 : OpR X (compareOp op2) r2) (ha : PE X a ta) (hb : PE X b tb) (hc : PE X c tc) (hd : PE X d td)
    (hm : lastMarks [op, op', op2] [b, c, d] = false := by with_unfolding_all rfl) : PE X (.Compare a [op, op', op2] [b, c, d] pos) (tChain3 r r' r2 ta tb tc td) := by
  refine ⟨fun pins s σ H Q I h => ?_⟩
  refine Compare_chain (thn (ha.run pins s σ H _ I h) fun v s1 ⟨x, H1, I1, r1, q1⟩ => chain_link (thn (hb.run pins s1 σ H1 _ I1 q1) fun u s2 ⟨y, H2, I2, r2', q2⟩ =>
    thn (ho pins s2 σ H2 x y v u _ I2 r1 r2' q2) fun d' s3 ⟨z, H3, I3, r3, k, e, q3⟩ => ?_)) hm
  subst e
  cases r3
  refine wpAny_truthy_bool ?_
  cases k with
  | false => exact ite_ff ⟨.bl false, H3, I3, rfl, q3⟩
  | true =>
    refine ite_tt (chain_link (thn (hc.run pins s3 σ H3 _ I3 q3) fun w' s4 ⟨z', H4, I4, r4, q4⟩ => thn (ho' pins s4 σ H4 y z' u w' _ I4 r2' r4 q4) fun d2 s5 ⟨z2, H5, I5, r5, k2, e2, q5⟩ => ?_))
    subst e2
    cases r5
    refine wpAny_truthy_bool ?_
    cases k2 with
    | false => exact ite_ff ⟨.bl false, H5, I5, rfl, q5⟩
    | true => exact ite_tt (chain_last (thn (hd.run pins s5 σ H5 _ I5 q5) fun w2 s6 ⟨z6, H6, I6, r6, q6⟩ => ho2 pins s6 σ H6 z' z6 w' w2 Q I6 r4 r6 q6))
theorem pt_chain3 {op op' op2 : CmpOp} {r r' r2 : R2} (ho : OpR X (compareOp op) r) (ho' : OpR X (compareOp op') r') (ho2 : OpR X (compareOp op2) r2) (ha : PE X a ta) (hb : PE X b tb) (hc : PE X c tc) (hd : PE X d td)
    (hm : lastMarks [op, op', op2] [b, c, d] = false := by with_unfolding_all rfl) : PT X (.Compare a [op, op', op2] [b, c, d] pos) (tTest (tChain3 r r' r2 ta tb tc td)) := by
  refine ⟨fun pins s σ H Q I h => ?_⟩
  refine isTrue_chain (thn (ha.run pins s σ H _ I h) fun v s1 ⟨x, H1, I1, r1, q1⟩ => test_link (thn (hb.run pins s1 σ H1 _ I1 q1) fun u s2 ⟨y, H2, I2, r2', q2⟩ =>
    thn (ho pins s2 σ H2 x y v u _ I2 r1 r2' q2) fun d' s3 ⟨z, H3, I3, r3, k, e, q3⟩ => ?_)) hm
  subst e
  cases r3
  refine wpAny_truthy_bool ?_
  cases k with
  | false =>
    obtain ⟨k', e', q'⟩ := q3
    cases e'
    exact ite_ff ⟨H3, I3, q'⟩
  | true =>
    refine ite_tt (test_link (thn (hc.run pins s3 σ H3 _ I3 q3) fun w' s4 ⟨z', H4, I4, r4, q4⟩ => thn (ho' pins s4 σ H4 y z' u w' _ I4 r2' r4 q4) fun d2 s5 ⟨z2, H5, I5, r5, k2, e2, q5⟩ => ?_))
    subst e2
    cases r5
    refine wpAny_truthy_bool ?_
    cases k2 with
    | false =>
      obtain ⟨k', e', q'⟩ := q5
      cases e'
      exact ite_ff ⟨H5, I5, q'⟩
    | true =>
      refine ite_tt (test_last (thn (hd.run pins s5 σ H5 _ I5 q5) fun w2 s6 ⟨z6, H6, I6, r6, q6⟩ => thn (ho2 pins s6 σ H6 z' z6 w' w2 _ I6 r4 r6 q6) fun d3 s7 ⟨z7, H7, I7, r7, k3, e3, q7⟩ => ?_))
      subst e3
      cases r7
      exact wpAny_truthy_bool ⟨H7, I7, q7⟩
end
end L2
namespace L2.DL
open PySem PySem.Spec PyProof.Rows
variable [Tbs]
section
variable {X : Cx} {W : WX} {a b c e : Expr} {ta tb tc te : DTE} {p p2 pos pos2 : Pos}
theorem rgV_rel {K : ZK} {H : Hp} {M : MS} {i j : Int} : RelA K H M (rgV i j) (rng i (j - i).toNat) := by
  unfold rgV rng
  have : ∀ l : List Nat, RelA K H M (l.map fun k => V.int (i + (k : Nat))) (l.map fun (k : Nat) => D.int (i + k)) := by
    intro l
    induction l with
    | nil => exact .nil
    | cons k l ih => exact .cons (.int _) ih
  exact this _
def dLRng1 (ta : DTE) : DTE := fun ρ R E M => ta ρ (fun d M1 => match d with
  | .int j => (-(2 ^ 62) ≤ j ∧ j ≤ 16777216) ∧ R (.lst (rng 0 j.toNat)) M1
  | _ => False) E M
def dLRng2 (ta tb : DTE) : DTE := fun ρ R E M => ta ρ (fun d M1 => tb ρ (fun e M2 => match d, e with
  | .int i, .int j => ((-(2 ^ 62) ≤ i ∧ i ≤ 16777216) ∧ -(2 ^ 62) ≤ j ∧ j ≤ 16777216 ∧ j - i ≤ 16777216) ∧ R (.lst (rng i (j - i).toNat)) M2
  | _, _ => False) E M1) E M
theorem de_lrng1 (hc : X.calm = true) (hl : X.mg "list" = none) (hr : X.mg "range" = none) (ha : DE X W a ta) (hg : Gl X "list" := by rfl) (hg2 : Gl X "range" := by rfl)
    (na : starEach [a] X.env = (false, eval a X.env) :: starEach [] X.env := by rfl) (nb : starEach [.Call (.Name "range" p2) [a] [] pos2] X.env = (false, eval (.Call (.Name "range" p2) [a] [] pos2) X.env) :: starEach [] X.env := by rfl) :
    DE X W (.Call (.Name "list" p) [.Call (.Name "range" p2) [a] [] pos2] [] pos) (dLRng1 ta) :=
  imp (pe_listRg hc hg hl (prg_1 hg2 hr ha na) nb) fun σ H Q ⟨z, ρ, M, R, E, hs, hm, h, hk, hE⟩ =>
    ⟨z, ρ, M, _, E, hs, hm, h, fun d M1 v H1 h1 m1 r1 e1 => by
      cases d with
      | int j =>
        cases r1
        obtain ⟨⟨b1, b2⟩, q⟩ := h1
        refine ⟨j, rfl, ⟨by omega, by omega, by omega, by omega, by omega⟩, fun q' hq => ?_⟩
        refine hk _ _ _ _ q (relM_new m1 hq) (.lst (fz_new m1 hq) ?_) (e1.trans (ext_new m1 hq))
        have := rgV_rel (K := ⟨X.K, z⟩) (H := upd H1 q' (.lst (rgV 0 j))) (M := M1) (i := 0) (j := j)
        rw [Int.sub_zero] at this
        exact this
      | _ => exact (show False from h1).elim, hE⟩
theorem de_lrng2 (hc : X.calm = true) (hl : X.mg "list" = none) (hr : X.mg "range" = none) (ha : DE X W a ta) (hb : DE X W b tb) (hg : Gl X "list" := by rfl) (hg2 : Gl X "range" := by rfl)
    (na : starEach [a, b] X.env = (false, eval a X.env) :: starEach [b] X.env := by rfl) (nb : starEach [b] X.env = (false, eval b X.env) :: starEach [] X.env := by rfl) (hp : (backTo pos2 (starEach [b] X.env)).any (·.1) = false := by rfl)
    (nc : starEach [.Call (.Name "range" p2) [a, b] [] pos2] X.env = (false, eval (.Call (.Name "range" p2) [a, b] [] pos2) X.env) :: starEach [] X.env := by rfl) :
    DE X W (.Call (.Name "list" p) [.Call (.Name "range" p2) [a, b] [] pos2] [] pos) (dLRng2 ta tb) :=
  imp (pe_listRg hc hg hl (prg_2 hg2 hr ha hb na nb hp) nc) fun σ H Q ⟨z, ρ, M, R, E, hs, hm, h, hk, hE⟩ =>
    ⟨z, ρ, M, _, E, hs, hm, h, fun d M1 v H1 h1 m1 r1 e1 => ⟨z, ρ, M1, _, E, hs.ext e1, m1, h1, fun d2 M2 v2 H2 h2 m2 r2 e2 => by
      cases d with
      | int i =>
        cases d2 with
        | int j =>
          cases r1
          cases r2
          obtain ⟨⟨⟨b1, b2⟩, b3, b4, b5⟩, q⟩ := h2
          refine ⟨i, j, rfl, rfl, ⟨by omega, by omega, by omega, by omega, by omega⟩, fun q' hq => ?_⟩
          exact hk _ _ _ _ q (relM_new m2 hq) (.lst (fz_new m2 hq) rgV_rel) ((e1.trans e2).trans (ext_new m2 hq))
        | _ => exact (show False from h2).elim
      | _ => cases d2 <;> exact (show False from h2).elim, hE.ext e1⟩, hE⟩
/-- chains of three -/
def dChain3 (f g h : D → D → PD → MS → Prop) (ta tb tc td : DTE) : DTE := fun ρ R E M => ta ρ (fun x M1 => tb ρ (fun y M2 => f x y (fun z M3 => match z with
  | .bl k => if k = true then tc ρ (fun w M4 => g y w (fun z2 M5 => match z2 with
    | .bl k2 => if k2 = true then td ρ (fun u M6 => h w u R M6) E M5 else R (.bl false) M5
    | _ => False) M4) E M3 else R (.bl false) M3
  | _ => False) M2) E M1) E M
theorem de_chain3 {d : Expr} {td : DTE} {op op' op2 : CmpOp} {f g h : D → D → PD → MS → Prop} (o : OpD X (compareOp op) f) (o' : OpD X (compareOp op') g) (o2 : OpD X (compareOp op2) h) (ha : DE X W a ta) (hb : DE X W b tb) (hc : DE X W c tc) (hd : DE X W d td)
    (hm : lastMarks [op, op', op2] [b, c, d] = false := by with_unfolding_all rfl) : DE X W (.Compare a [op, op', op2] [b, c, d] pos) (dChain3 f g h ta tb tc td) := by
  obtain ⟨r, ho, ad⟩ := o
  obtain ⟨r', ho', ad'⟩ := o'
  obtain ⟨r2, ho2, ad2⟩ := o2
  exact imp (pe_chain3 ho ho' ho2 ha hb hc hd hm) fun σ H Q ⟨z, ρ, M, R, E, hs, hm, h, hk, hE⟩ =>
    ⟨z, ρ, M, _, E, hs, hm, h, fun x M1 vx H1 h1 m1 r1 e1 => ⟨z, ρ, M1, _, E, hs.ext e1, m1, h1, fun y M2 vy H2 h2 m2 r2 e2 => ad _ _ _ _ _ _ _ _ _ m2 (e2 _ _ r1) r2 h2 (fun d M3 v H3 h3 m3 r3 e3 => by
      have e123 := e1.trans (e2.trans e3)
      cases d with
      | bl k =>
        cases r3
        refine ⟨k, rfl, ?_⟩
        cases k with
        | true =>
          refine iteT ⟨z, ρ, M3, _, E, hs.ext e123, m3, ofT h3, fun w M4 vw H4 h4 m4 r4 e4 => ad' _ _ _ _ _ _ _ _ _ m4 ((e3.trans e4) _ _ r2) r4 h4 (fun d5 M5 v5 H5 h5 m5 r5 e5 => ?_), hE.ext e123⟩
          have e15 := e123.trans (e4.trans e5)
          cases d5 with
          | bl k2 =>
            cases r5
            refine ⟨k2, rfl, ?_⟩
            cases k2 with
            | true => exact iteT ⟨z, ρ, M5, _, E, hs.ext e15, m5, ofT h5, fun u M6 vu H6 h6 m6 r6 e6 => ad2 _ _ _ _ _ _ _ _ _ m6 ((e5.trans e6) _ _ r4) r6 h6 (hk.ext (e15.trans e6)), hE.ext e15⟩
            | false => exact iteF (hk _ _ _ _ (ofF h5) m5 (.bl _) e15)
          | _ => exact h5.elim
        | false => exact iteF (hk _ _ _ _ (ofF h3) m3 (.bl _) e123)
      | _ => exact h3.elim), hE.ext e1⟩, hE⟩
theorem dt_chain3 {d : Expr} {td : DTE} {op op' op2 : CmpOp} {f g h : D → D → PD → MS → Prop} (o : OpD X (compareOp op) f) (o' : OpD X (compareOp op') g) (o2 : OpD X (compareOp op2) h) (ha : DE X W a ta) (hb : DE X W b tb) (hc : DE X W c tc) (hd : DE X W d td)
    (hm : lastMarks [op, op', op2] [b, c, d] = false := by with_unfolding_all rfl) : DT X W (.Compare a [op, op', op2] [b, c, d] pos) (dTst (dChain3 f g h ta tb tc td)) := by
  obtain ⟨r, ho, ad⟩ := o
  obtain ⟨r', ho', ad'⟩ := o'
  obtain ⟨r2, ho2, ad2⟩ := o2
  exact impT (pt_chain3 ho ho' ho2 ha hb hc hd hm) fun σ H Q ⟨z, ρ, M, R, E, hs, hm, h, hk, hE⟩ =>
    ⟨z, ρ, M, _, E, hs, hm, h, fun x M1 vx H1 h1 m1 r1 e1 => ⟨z, ρ, M1, _, E, hs.ext e1, m1, h1, fun y M2 vy H2 h2 m2 r2 e2 => ad _ _ _ _ _ _ _ _ _ m2 (e2 _ _ r1) r2 h2 (fun d M3 v H3 h3 m3 r3 e3 => by
      have e123 := e1.trans (e2.trans e3)
      cases d with
      | bl k =>
        cases r3
        refine ⟨k, rfl, ?_⟩
        cases k with
        | true =>
          refine iteT ⟨z, ρ, M3, _, E, hs.ext e123, m3, ofT h3, fun w M4 vw H4 h4 m4 r4 e4 => ad' _ _ _ _ _ _ _ _ _ m4 ((e3.trans e4) _ _ r2) r4 h4 (fun d5 M5 v5 H5 h5 m5 r5 e5 => ?_), hE.ext e123⟩
          have e15 := e123.trans (e4.trans e5)
          cases d5 with
          | bl k2 =>
            cases r5
            refine ⟨k2, rfl, ?_⟩
            cases k2 with
            | true => exact iteT ⟨z, ρ, M5, _, E, hs.ext e15, m5, ofT h5, fun u M6 vu H6 h6 m6 r6 e6 => ad2 _ _ _ _ _ _ _ _ _ m6 ((e5.trans e6) _ _ r4) r6 h6 (fun d7 M7 v7 H7 h7 m7 r7 e7 => by
                cases d7 with
                | bl k7 => cases r7; exact ⟨k7, rfl, hk _ _ _ h7 m7 (e15.trans (e6.trans e7))⟩
                | _ => exact h7.elim), hE.ext e15⟩
            | false => exact iteF ⟨false, rfl, hk _ _ _ (ofF h5) m5 e15⟩
          | _ => exact h5.elim
        | false => exact iteF ⟨false, rfl, hk _ _ _ (ofF h3) m3 e123⟩
      | _ => exact h3.elim), hE.ext e1⟩, hE⟩
variable {ρ : Sl} {R : PD} {E : XP} {M : MS}
theorem v_chain3 {f g h : D → D → PD → MS → Prop} {td : DTE} : dChain3 f g h ta tb tc td ρ R E M = ta ρ (fun x M1 => tb ρ (fun y M2 => f x y (fun z M3 => match z with
  | .bl k => if k = true then tc ρ (fun w M4 => g y w (fun z2 M5 => match z2 with
    | .bl k2 => if k2 = true then td ρ (fun u M6 => h w u R M6) E M5 else R (.bl false) M5
    | _ => False) M4) E M3 else R (.bl false) M3
  | _ => False) M2) E M1) E M := by (rfl)
theorem v_lrng1 : dLRng1 ta ρ R E M = ta ρ (fun d M1 => match d with
  | .int j => (-(2 ^ 62) ≤ j ∧ j ≤ 16777216) ∧ R (.lst (rng 0 j.toNat)) M1
  | _ => False) E M := by (rfl)
theorem v_lrng2 : dLRng2 ta tb ρ R E M = ta ρ (fun d M1 => tb ρ (fun e M2 => match d, e with
  | .int i, .int j => ((-(2 ^ 62) ≤ i ∧ i ≤ 16777216) ∧ -(2 ^ 62) ≤ j ∧ j ≤ 16777216 ∧ j - i ≤ 16777216) ∧ R (.lst (rng i (j - i).toNat)) M2
  | _, _ => False) E M1) E M := by (rfl)
end
end L2.DL
/-! DLzf: min, max of a tuple of alike data -/
namespace L2
open PySem PySem.Spec PyProof.Rows
theorem vals_get {xs : List V} {us : List Value} (h : Vals xs us) : ∀ (i : Nat) (u : Value), us[i]? = some u → ∃ x, xs[i]? = some x ∧ RelV x u := by
  induction h with
  | nil => intro i u e; simp at e
  | cons r _ ih =>
    intro i u e
    cases i with
    | zero => exact ⟨_, rfl, by simpa using (Option.some.inj (show some _ = some u from e)) ▸ r⟩
    | succ i => exact ih i u (by simpa using e)
theorem dps_get {K : PySem.W.Frag} {H : Hp} : ∀ {xs : List V} {ds : List PyData}, DpAll K H xs ds → ∀ (i : Nat) (x : V), xs[i]? = some x → ∃ d, ds[i]? = some d ∧ Dp K H x d
  | _, _, .nil, _, _, e => by simp at e
  | _, _, .cons h _, 0, x, e => by
    have e := Option.some.inj (show some _ = some x from e)
    subst e
    exact ⟨_, rfl, h⟩
  | _, _, .cons _ hs, i + 1, x, e => dps_get hs i x (by simpa using e)
def rBestT (K : PySem.W.Frag) (f : PyData → List PyData → PyData) : List V → Hp → VK → Prop := fun vs H Q => ∃ a xs d ds, vs = [V.ref a] ∧ SqT K H a xs ∧ DpAll K H xs (d :: ds) ∧ PySem.W.AlikeAll (d :: ds) ∧ PyData.depthAll (d :: ds) ≤ 60 ∧
  ∀ (i : Nat) x, xs[i]? = some x → (d :: ds)[i]? = some (f d ds) → Q x H
section
variable {X : Cx}
theorem cr_minT (hc : X.calm = true) (hu : X.A.units + 64 < cLine) : CallR X (.builtin "min") (rBestT X.K PySem.W.minD) := by
  intro pins s σ H vs us Q I r h
  obtain ⟨a, xs, d, ds, rfl, hs, hd, al, hdp, q⟩ := h
  obtain ⟨its, rv, hl, _⟩ := I.tuple hs
  rw [Vals.ref1 r]
  obtain ⟨as, ra⟩ := Dp.readsAll I _ _ its hd rv
  refine PySem.W.min_tuple_data (I.ok.hd hc) hl (by simpa using ra) al (by omega) fun i v h' tk bs hi rd hk => ?_
  obtain ⟨x, ex, rx⟩ := vals_get rv i v (by simpa using hi)
  obtain ⟨e, ee, he⟩ := dps_get hd i x ex
  obtain ⟨cs, rr⟩ := Dp.reads I e x v he rx
  have := (Reads.unique (PySem.W.reads_keeps hk rr) _ _ rd).1
  exact ⟨x, H, I.kept hk, rx, q i x ex (by rw [ee, this])⟩
theorem cr_maxT (hc : X.calm = true) (hu : X.A.units + 64 < cLine) : CallR X (.builtin "max") (rBestT X.K PySem.W.maxD) := by
  intro pins s σ H vs us Q I r h
  obtain ⟨a, xs, d, ds, rfl, hs, hd, al, hdp, q⟩ := h
  obtain ⟨its, rv, hl, _⟩ := I.tuple hs
  rw [Vals.ref1 r]
  obtain ⟨as, ra⟩ := Dp.readsAll I _ _ its hd rv
  refine PySem.W.max_tuple_data (I.ok.hd hc) hl (by simpa using ra) al (by omega) fun i v h' tk bs hi rd hk => ?_
  obtain ⟨x, ex, rx⟩ := vals_get rv i v (by simpa using hi)
  obtain ⟨e, ee, he⟩ := dps_get hd i x ex
  obtain ⟨cs, rr⟩ := Dp.reads I e x v he rx
  have := (Reads.unique (PySem.W.reads_keeps hk rr) _ _ rd).1
  exact ⟨x, H, I.kept hk, rx, q i x ex (by rw [ee, this])⟩
end
end L2
namespace L2.DL
open PySem PySem.Spec PyProof.Rows
variable [Tbs]
/-- min(t), max(t) of a tuple's data -/
def bestT (f : PyData → List PyData → PyData) : List D → PD → MS → Prop
  | [.tup es], R, M => isPs es = true ∧ ∃ d ds, pds es = d :: ds ∧ PySem.W.AlikeAll (d :: ds) ∧ PyData.depthAll (d :: ds) ≤ 60 ∧ ∀ e, e ∈ es → pd e = f d ds → R e M
  | _, _, _ => False
def mnTD : List D → PD → MS → Prop := bestT PySem.W.minD
def mxTD : List D → PD → MS → Prop := bestT PySem.W.maxD
theorem relA_get {K : ZK} {H : Hp} {M : MS} : ∀ {vs : List V} {ds : List D}, RelA K H M vs ds → ∀ (i : Nat) (v : V), vs[i]? = some v → ∃ d, ds[i]? = some d ∧ Rel K H M v d
  | _, _, .nil, _, _, e => by simp at e
  | _, _, .cons h _, 0, x, e => by
    have e := Option.some.inj (show some _ = some x from e)
    subst e
    exact ⟨_, rfl, h⟩
  | _, _, .cons _ hs, i + 1, x, e => relA_get hs i x (by simpa using e)
theorem pds_get : ∀ (es : List D) (i : Nat), (pds es)[i]? = (es[i]?).map pd
  | [], _ => by simp [pds]
  | _ :: _, 0 => by simp [pds]
  | _ :: es, i + 1 => by simpa [pds] using pds_get es i
theorem c_best {X : Cx} {id : String} {f : PyData → List PyData → PyData} (h : CallR X (.builtin id) (rBestT X.K f)) : CallD X (.builtin id) (bestT f) := by
  refine ⟨_, h, fun z H M xs vs R Q m ra h hc => ?_⟩
  unfold bestT at h
  split at h
  · rename_i es
    cases ra with
    | cons x y =>
      cases y
      obtain ⟨ip, d, ds, ed, al, dp, q⟩ := h
      cases x with
      | tup sq ra =>
        refine ⟨_, _, d, ds, rfl, sq, ed ▸ dps_of es _ ip ra, al, dp, fun i x ex ei => ?_⟩
        obtain ⟨e, ee, re⟩ := relA_get ra i x ex
        rw [← ed, pds_get, ee] at ei
        exact hc.here (q e (List.mem_of_getElem? ee) (Option.some.inj ei)) m re
  · exact h.elim
theorem c_minT {X : Cx} (hc : X.calm = true) (hu : X.A.units + 64 < cLine) : CallD X (.builtin "min") mnTD := c_best (cr_minT hc hu)
theorem c_maxT {X : Cx} (hc : X.calm = true) (hu : X.A.units + 64 < cLine) : CallD X (.builtin "max") mxTD := c_best (cr_maxT hc hu)
theorem alike_ints (ns : List Int) : PySem.W.AlikeAll (ns.map PyData.int) := by
  constructor
  · intro x hx y hy
    obtain ⟨a, _, rfl⟩ := List.mem_map.mp hx
    obtain ⟨b, _, rfl⟩ := List.mem_map.mp hy
    simp only [PySem.W.alike]
  · intro x hx
    obtain ⟨a, _, rfl⟩ := List.mem_map.mp hx
    exact fun e => by cases e
theorem depth_ints : ∀ ns : List Int, PyData.depthAll (ns.map PyData.int) = 0
  | [] => by simp only [List.map_nil, PyData.depthAll]
  | n :: ns => by simp only [List.map_cons, PyData.depthAll, PyData.depth, depth_ints ns, Nat.max_self]
theorem foldl_min (n : Int) (ns : List Int) : ns.foldl min n ∈ n :: ns ∧ ∀ y, y ∈ n :: ns → ns.foldl min n ≤ y := by
  induction ns generalizing n with
  | nil => simp
  | cons k r ih =>
    obtain ⟨h1, h2⟩ := ih (min n k)
    rw [List.foldl_cons]
    constructor
    · rcases List.mem_cons.mp h1 with h | h
      · rw [h]
        rcases Int.le_total n k with h | h
        · rw [Int.min_eq_left h]; exact List.mem_cons_self
        · rw [Int.min_eq_right h]; exact List.mem_cons_of_mem _ List.mem_cons_self
      · exact List.mem_cons_of_mem _ (List.mem_cons_of_mem _ h)
    · intro y hy
      have h0 := h2 (min n k) List.mem_cons_self
      rcases List.mem_cons.mp hy with h | h
      · omega
      · rcases List.mem_cons.mp h with h | h
        · omega
        · exact h2 y (List.mem_cons_of_mem _ h)
theorem foldl_max (n : Int) (ns : List Int) : ns.foldl max n ∈ n :: ns ∧ ∀ y, y ∈ n :: ns → y ≤ ns.foldl max n := by
  induction ns generalizing n with
  | nil => simp
  | cons k r ih =>
    obtain ⟨h1, h2⟩ := ih (max n k)
    rw [List.foldl_cons]
    constructor
    · rcases List.mem_cons.mp h1 with h | h
      · rw [h]
        rcases Int.le_total n k with h | h
        · rw [Int.max_eq_right h]; exact List.mem_cons_of_mem _ List.mem_cons_self
        · rw [Int.max_eq_left h]; exact List.mem_cons_self
      · exact List.mem_cons_of_mem _ (List.mem_cons_of_mem _ h)
    · intro y hy
      have h0 := h2 (max n k) List.mem_cons_self
      rcases List.mem_cons.mp hy with h | h
      · omega
      · rcases List.mem_cons.mp h with h | h
        · omega
        · exact h2 y (List.mem_cons_of_mem _ h)
theorem q_minT {n : Int} {ns : List Int} {R : PD} {M : MS} (q : ∀ k, k ∈ n :: ns → (∀ y, y ∈ n :: ns → k ≤ y) → R (.int k) M) : mnTD [.tup ((n :: ns).map D.int)] R M := by
  refine ⟨isPs_ints _, .int n, ns.map .int, pds_ints (n :: ns), alike_ints (n :: ns), by rw [← List.map_cons (f := PyData.int), depth_ints]; exact Nat.zero_le _, fun e he h => ?_⟩
  obtain ⟨k, hk, rfl⟩ := List.mem_map.mp he
  rw [PySem.W.minD_ints] at h
  have e : k = ns.foldl min n := by cases h; rfl
  subst e
  exact q _ hk (foldl_min n ns).2
theorem q_maxT {n : Int} {ns : List Int} {R : PD} {M : MS} (q : ∀ k, k ∈ n :: ns → (∀ y, y ∈ n :: ns → y ≤ k) → R (.int k) M) : mxTD [.tup ((n :: ns).map D.int)] R M := by
  refine ⟨isPs_ints _, .int n, ns.map .int, pds_ints (n :: ns), alike_ints (n :: ns), by rw [← List.map_cons (f := PyData.int), depth_ints]; exact Nat.zero_le _, fun e he h => ?_⟩
  obtain ⟨k, hk, rfl⟩ := List.mem_map.mp he
  rw [PySem.W.maxD_ints] at h
  have e : k = ns.foldl max n := by cases h; rfl
  subst e
  exact q _ hk (foldl_max n ns).2
end L2.DL
/-! DLzl: defs with defaults, by any global name; calls with keywords -/
namespace L2.DL
open PySem PySem.Spec PyProof.Rows
variable [Tbs]
/-- values that may stand as defaults -/
def dfV : D → V
  | .int i => .int i
  | .str x => .str x
  | .bl b => .bl b
  | _ => .non
def dfOk : D → Bool
  | .int _ => true
  | .str _ => true
  | .bl _ => true
  | .non => true
  | _ => false
theorem df_rel {K : ZK} {H : Hp} {M : MS} : ∀ {d : D}, dfOk d = true → Rel K H M (dfV d) d
  | .int _, _ => .int _
  | .str _, _ => .str _
  | .bl _, _ => .bl _
  | .non, _ => .non
  | .ty _, h => by cases h
  | .ref _, h => by cases h
  | .tup _, h => by cases h
  | .lst _, h => by cases h
  | .scr _, h => by cases h
  | .fn _, h => by cases h
  | .clo _ _ _, h => by cases h
theorem df_rels {K : ZK} {H : Hp} {M : MS} : ∀ {ds : List D}, ds.all dfOk = true → RelA K H M (ds.map dfV) ds
  | [], _ => .nil
  | d :: ds, h => by
    rw [List.all_cons, Bool.and_eq_true] at h
    exact .cons (df_rel h.1) (df_rels h.2)
section
variable {P : Program} {w : World} {K : PySem.W.Frag} {mg : Str → Option Value} {base : Heap}
/-- a def's body read over data, whatever its defaults -/
theorem FnD.ofD {x qual : Str} {params : Arguments} {body : List Stmt} {scope : Scope} {dvs : List V} {kws : List (Str × V)} {f : Addr} {fd : FuncData} {N ps : List Str} {k : Nat} {g : G} {tb : DTS} (F : FunD K x qual params body scope dvs kws f fd) (S : FnScope N ps scope) (len : ∀ ds R E M, g ds R E M → ds.length = ps.length)
    (hb : ∀ (cdv : Value) (A : Around) (outer : List Env) (s : Shared) (H : Hp) (E : XK), Room k (A.deeper (envOfC qual scope s.heap.objs.size f cdv)) → (A.deeper (envOfC qual scope s.heap.objs.size f cdv)).guards = some [] →
      DSs (cxOf (L2.CX P w) P w K mg base N qual scope f cdv A outer s H E) (WB E) body tb)
    (hg : ∀ ds R RE M, g ds R RE M → tb (ends R RE) (startD N ds) M) : FnD P w K mg base (k + 1) f fd ps g := by
  obtain ⟨oc, od, dV, kV, doc, pm, an, cdv, ct, osl, rfl, lk, hcd, _, _⟩ := F.ex
  refine ⟨len, fun A outer s H args us vs Q E hr hG e0 hbd r hsp => ?_⟩
  obtain ⟨z, ds, M, R, RE, ra, rm, hgg, hcont, hex⟩ := hsp
  have hl : vs.length = ps.length := ra.length.trans (len _ _ _ _ hgg)
  have nl : ds.length ≤ N.length := by
    have z := congrArg List.length S.pre
    rw [List.length_take] at z
    have z2 := len _ _ _ _ hgg
    omega
  have kx : K.In s.heap := e0.mod.kin.keeps fun b o e => (e0.bs b o e).1
  have nolim : s.heap.NoLimit := e0.mod.nolimit.keeps fun b o e => (e0.bs b o e).1
  have kinds : ∀ y ∈ ps.zip us, scope.names.lookup y.1 = some .local ∨ (scope.names.lookup y.1 = some .cell ∧ ((cellsFrom (s.heap.objs.size + 1) scope.names []).lookup y.1).isSome = true) := by
    rintro ⟨n, v⟩ hy
    rcases S.par n (List.of_mem_zip hy).1 with q | q
    · exact .inl q
    · exact .inr ⟨q, PySem.W.cellsFrom_some _ _ _ (.inl q)⟩
  refine codeAny_call_function hr.depth (kx _ _ lk) rfl S.co S.gen rfl (PySem.W.codeRec_of kx hcd) (hbd _ _ _ _ ?_)
  refine wpAny_newFunctionEnv_cells S.kind kinds fun env he s1 xc => ?_
  subst he
  refine ⟨nolim.keeps xc.toInCall.keep, codeAny_func ?_⟩
  have T := hb cdv A outer s H E (hr.deeper _) hG
  have I : Inv (cxOf (L2.CX P w) P w K mg base N qual scope f cdv A outer s H E) [] (L2.start N vs) H s1 := inv_start S hr.hd e0 hl r xc
  have reading : liftS K (WB E) tb { nx := fun _ H' => Q .non H', rt := Q } (L2.start N vs) H := by
    refine ⟨z, startD N ds, M, ends R RE, relS_start ra nl, rm, hg ds R RE M hgg, ?_, ?_, ?_, ?_, ?_⟩
    · rintro ρ' M' σ' H' ⟨d', M2, wk, q⟩ m s e
      exact hcont d' M2 .non H' q (m.le wk.1) (wk.2 _ H' _ m .non) (e.trans (Ext.le wk.1))
    · rintro d M' v H' ⟨d', M2, wk, q⟩ m r e
      exact hcont d' M2 v H' q (m.le wk.1) (wk.2 _ H' _ m r) (e.trans (Ext.le wk.1))
    · intro _ _ _ _ q
      exact q.elim
    · intro _ _ _ _ q
      exact q.elim
    · rintro x ρ' M' cls d σ' H' ⟨M2, l, q⟩ m s rx e
      exact hex x M2 cls d H' q (m.le l) (relX_le l rx) (e.trans (Ext.le l))
  refine wpAny_mono (T.run [] s1 (L2.start N vs) H _ I reading) (fun fl s' hs => ?_) fun e s' hs => hs
  have fin : ∀ {σ' : St} {H' : Hp} {v : V} {u : Value}, Inv (cxOf (L2.CX P w) P w K mg base N qual scope f cdv A outer s H E) [] σ' H' s' → RelV v u → Q v H' → CE outer P w H s Q u s' :=
    fun {σ' H' v u} J rv q => ⟨v, H', J.os, J.bare, J.base, J.hok, rv, q⟩
  cases fl with
  | ret u =>
    obtain ⟨v, σ', H', J, rv, q⟩ := hs
    exact fin J rv q
  | next =>
    obtain ⟨σ', H', J, q⟩ := hs
    exact fin (v := .non) (u := .none) J rfl q
  | brk => exact (let ⟨_, _, _, q⟩ := hs; q.elim)
  | cont => exact (let ⟨_, _, _, q⟩ := hs; q.elim)
/-- a def of the text by its global name x (its own name may be another, y) -/
structure TxD (K : PySem.W.Frag) (mg : Str → Option Value) (x y : Str) (st : Stmt) (dvs : List D) : Prop where
  ex : ∃ f fd, mg x = some (.ref f) ∧ FunD K y y (defArgs st) (defBody st) (defScope st) (dvs.map dfV) [] f fd
/-- .. with what it promises -/
structure DfD (P : Program) (w : World) (K : PySem.W.Frag) (mg : Str → Option Value) (base : Heap) (x y : Str) (st : Stmt) (dvs : List D) (ps : List Str) (k : Nat) (g : G) : Prop where
  ex : ∃ f fd, mg x = some (.ref f) ∧ FunD K y y (defArgs st) (defBody st) (defScope st) (dvs.map dfV) [] f fd ∧ FnD P w K mg base k f fd ps g
theorem DfD.of {x y : Str} {st : Stmt} {dvs : List D} {N ps : List Str} {k : Nat} {g : G} {tb : DTS} (T : TxD K mg x y st dvs) (S : FnScope N ps (defScope st))
    (len : ∀ ds R E M, g ds R E M → ds.length = ps.length)
    (hb : ∀ (f : Addr) (cdv : Value) (A : Around) (outer : List Env) (s : Shared) (H : Hp) (E : XK), Room k (A.deeper (envOfC y (defScope st) s.heap.objs.size f cdv)) → (A.deeper (envOfC y (defScope st) s.heap.objs.size f cdv)).guards = some [] →
      DSs (cxOf (L2.CX P w) P w K mg base N y (defScope st) f cdv A outer s H E) (WB E) (defBody st) tb)
    (hg : ∀ ds R RE M, g ds R RE M → tb (ends R RE) (startD N ds) M) : DfD P w K mg base x y st dvs ps (k + 1) g := by
  obtain ⟨f, fd, h1, F⟩ := T.ex
  exact ⟨f, fd, h1, F, FnD.ofD F S len (hb f) hg⟩
/-- the values at these places -/
def gtX {α : Type} : List α → Nat → Option α
  | [], _ => none
  | x :: _, 0 => some x
  | _ :: xs, n + 1 => gtX xs n
def pmX {α : Type} : List Nat → List α → List α
  | [], _ => []
  | i :: ix, l => match gtX l i with
    | some x => x :: pmX ix l
    | none => pmX ix l
theorem v_gt0 {α : Type} {x : α} {l : List α} : gtX (x :: l) 0 = some x := (rfl)
theorem v_gtS {α : Type} {x : α} {l : List α} {n : Nat} : gtX (x :: l) (n + 1) = gtX l n := (rfl)
theorem v_pmN {α : Type} {l : List α} : pmX [] l = [] := (rfl)
theorem v_pmC {α : Type} {l : List α} {i : Nat} {ix : List Nat} : pmX (i :: ix) l = match gtX l i with
    | some x => x :: pmX ix l
    | none => pmX ix l := (rfl)
theorem v_apN {α : Type} {l : List α} : [] ++ l = l := (rfl)
theorem v_apC {α : Type} {x : α} {l m : List α} : (x :: l) ++ m = x :: (l ++ m) := (rfl)
theorem gtX_rel {α β : Type} {r : α → β → Prop} {q : List α → List β → Prop} (hq : ∀ a as b bs, q (a :: as) (b :: bs) → r a b ∧ q as bs) (h1 : ∀ a as, ¬ q (a :: as) []) (h2 : ∀ b bs, ¬ q [] (b :: bs)) : ∀ {as : List α} {bs : List β} (i : Nat), q as bs → (gtX as i = none ∧ gtX bs i = none) ∨ ∃ a b, gtX as i = some a ∧ gtX bs i = some b ∧ r a b
  | [], [], _, _ => .inl ⟨rfl, rfl⟩
  | [], b :: bs, _, h => absurd h (h2 b bs)
  | a :: as, [], _, h => absurd h (h1 a as)
  | a :: as, b :: bs, 0, h => .inr ⟨a, b, rfl, rfl, (hq _ _ _ _ h).1⟩
  | a :: as, b :: bs, i + 1, h => gtX_rel hq h1 h2 (as := as) (bs := bs) i (hq _ _ _ _ h).2
theorem pmX_vals {vs : List V} {us : List Value} (h : Vals vs us) : ∀ ix : List Nat, Vals (pmX ix vs) (pmX ix us)
  | [] => .nil
  | i :: ix => by
    rcases gtX_rel (r := RelV) (q := Vals) (fun a as b bs h => by cases h with | cons x y => exact ⟨x, y⟩) (fun a as h => by cases h) (fun b bs h => by cases h) i h with ⟨e1, e2⟩ | ⟨a, b, e1, e2, r⟩
    · rw [v_pmC, v_pmC, e1, e2]; exact pmX_vals h ix
    · rw [v_pmC, v_pmC, e1, e2]; exact .cons r (pmX_vals h ix)
theorem pmX_rel {K : ZK} {H : Hp} {M : MS} {vs : List V} {us : List D} (h : RelA K H M vs us) : ∀ ix : List Nat, RelA K H M (pmX ix vs) (pmX ix us)
  | [] => .nil
  | i :: ix => by
    rcases gtX_rel (r := Rel K H M) (q := RelA K H M) (fun a as b bs h => by cases h with | cons x y => exact ⟨x, y⟩) (fun a as h => by cases h) (fun b bs h => by cases h) i h with ⟨e1, e2⟩ | ⟨a, b, e1, e2, r⟩
    · rw [v_pmC, v_pmC, e1, e2]; exact pmX_rel h ix
    · rw [v_pmC, v_pmC, e1, e2]; exact .cons r (pmX_rel h ix)
theorem vals_app : ∀ {vs ws : List V} {us ys : List Value}, Vals vs us → Vals ws ys → Vals (vs ++ ws) (us ++ ys)
  | _, _, _, _, .nil, s => s
  | _, _, _, _, .cons r t, s => .cons r (vals_app t s)
/-- how a call binds: n values by places, m defaults, names ks; ix: where the parameters' values stand among all these -/
def BnD (st : Stmt) (y : Str) (ps ks : List Str) (n m : Nat) (ix : List Nat) : Prop :=
  (m ≠ 0 ∧ ∀ (kV doc pm : Value) (an : Option Addr) (cdv ct : Value) (T : Addr) (us its ws : List Value), us.length = n → its.length = m → ws.length = ks.length →
      ∃ k, bindArgs (PySem.W.fnOf y y (defArgs st) (defBody st) (defScope st) (.ref T) kV doc pm an cdv ct) ⟨us, ks.zip ws⟩ = seqItems? (.ref T) >>= k ∧ k (some its.toArray) = pure (ps.zip (pmX ix (us ++ (its ++ ws))))) ∨
  (m = 0 ∧ ∀ (kV doc pm : Value) (an : Option Addr) (cdv ct : Value) (us ws : List Value), us.length = n → ws.length = ks.length →
      bindArgs (PySem.W.fnOf y y (defArgs st) (defBody st) (defScope st) .none kV doc pm an cdv ct) ⟨us, ks.zip ws⟩ = pure (ps.zip (pmX ix (us ++ ws))))
end
theorem knD {K : PySem.W.Frag} {y : Str} {st : Stmt} {dvs : List V} {f : Addr} {fd : FuncData} {ps ks : List Str} {n : Nat} {ix : List Nat} (F : FunD K y y (defArgs st) (defBody st) (defScope st) dvs [] f fd)
    (h : BnD st y ps ks n dvs.length ix) :
    ∃ its : List Value, Vals dvs its ∧ ∀ (s : Shared) (us ws : List Value), K.In s.heap → us.length = n → ws.length = ks.length → BindsTo s fd ⟨us, ks.zip ws⟩ (ps.zip (pmX ix (us ++ (its ++ ws)))) := by
  obtain ⟨oc, od, dV, kV, doc, pm, an, cdv, ct, osl, rfl, lk, hcd, hD, hK⟩ := F.ex
  rcases hD with ⟨e, e2⟩ | ⟨ne, T, o, its, m, rfl, lT, oT, rT⟩
  · subst e e2
    rcases h with ⟨e', _⟩ | ⟨_, h⟩
    · exact absurd rfl e'
    · exact ⟨[], .nil, fun s us ws X l1 l2 => .of_eq (h kV doc pm an cdv ct us ws l1 l2)⟩
  · rcases h with ⟨_, h⟩ | ⟨e, _⟩
    · refine ⟨its, rT, fun s us ws X l1 l2 => BindsTo.of_looks fun M => ?_⟩
      obtain ⟨k, e1, e2⟩ := h kV doc pm an cdv ct T us its ws l1 rT.length.symm l2
      rw [e1]
      exact looks_items X lT oT (.of_pure e2)
    · exact absurd (List.length_eq_zero_iff.mp e) ne
/-- the call: values by places, by names -/
def dCallN (n m : Nat) (ix : List Nat) (dvs : List D) (g : G) (t tk : DTA) : DTE := fun ρ R E M => t ρ (fun ds M1 => tk ρ (fun es M2 => ds.length = n ∧ es.length = m ∧ g (pmX ix (ds ++ (dvs ++ es))) R (fun x M' => E x ρ M') M2) E M1) E M
section
variable {X : Cx} {W : WX} {ea e : Expr} {es : List Expr} {t tk : DTA} {te : DTE} {g : G} {x y : Str} {ps ks : List Str} {k n m : Nat} {p pos kpos : Pos} {kws : List Keyword} {nm : Option Str} {st : Stmt} {dvs : List D} {ix : List Nat}
abbrev DK (X : Cx) (W : WX) (kws : List Keyword) (t : DTA) : Prop := PK X kws (liftA X.K W t)
theorem impK {X : Cx} {e : List Keyword} {t u : TA} (h : PK X e t) (hi : ∀ σ H Q, u σ H Q → t σ H Q) : PK X e u := ⟨fun pos pins s σ H Q I q => h.run pos pins s σ H Q I (hi σ H Q q)⟩
theorem dk_nil : DK X W [] dNil := impK pk_nil fun σ H Q ⟨z, ρ, M, R, E, hs, hm, h, hc, _⟩ => hc _ _ _ _ h hm .nil Ext.refl
theorem dk_cons (ha : DE X W e te) (hr : DK X W kws t) : DK X W (⟨nm, e, kpos⟩ :: kws) (dCons te t) :=
  impK (pk_cons ha hr) fun σ H Q ⟨z, ρ, M, R, E, hs, hm, h, hc, hE⟩ =>
    ⟨z, ρ, M, _, E, hs, hm, h, fun d M1 v H1 h1 m1 r1 e1 => ⟨z, ρ, M1, _, E, hs.ext e1, m1, h1, fun ds M2 vs H2 h2 m2 r2 e2 => hc _ _ _ _ h2 m2 (.cons (e2 _ _ r1) r2) (e1.trans e2), hE.ext e1⟩, hE⟩
/-- what stands behind the evaluation of all arguments -/
theorem callN_end {f : Addr} {fd : FuncData} {its : List Value} {pins : List (Addr × Obj)} {σ : St} {H2 : Hp} {s2 : Shared} {Q : VK} {us ws : List Value} {vs zs : List V} (F : FnD X.prog X.w X.K X.mg X.base k f fd ps g) (hr : Room k X.A) (hG : X.A.guards = some []) (tt : Takes X W) (hdv : dvs.all dfOk = true)
    (rT : Vals (dvs.map dfV) its) (hb : ∀ (s : Shared) (us ws : List Value), X.K.In s.heap → us.length = n → ws.length = ks.length → BindsTo s fd ⟨us, ks.zip ws⟩ (ps.zip (pmX ix (us ++ (its ++ ws)))))
    (I2 : Inv X pins σ H2 s2) (r : Vals vs us) (rz : Vals zs ws) (l1 : vs.length = n) (l2 : zs.length = ks.length) (q : spD X.K g (pmX ix (vs ++ (dvs.map dfV ++ zs))) H2 Q fun cls d H' => W cls d σ H') : wpAny (model X.prog X.w) X.A (call (.ref f) us (ks.zip ws)) (EP X pins σ Q) X.xe s2 := by
  refine wpAny_call (codeAny_mono (F.run X.A X.stack s2 H2 ⟨us, ks.zip ws⟩ _ _ Q _ hr hG I2.env0 (hb s2 us ws I2.kIn (r.length.symm.trans l1) (rz.length.symm.trans l2)) (pmX_vals (vals_app r (vals_app rT rz)) ix) q) fun res s' hq => ?_)
  cases res with
  | error e' => exact passAt tt σ pins H2 s2 e' s' I2 hq
  | ok fl =>
    cases fl with
    | ret u => exact I2.after hq
    | next => exact False.elim hq
    | brk => exact False.elim hq
    | cont => exact False.elim hq
theorem de_callN (dd : DfD X.prog X.w X.K X.mg X.base x y st dvs ps k g) (hr : Room k X.A) (hG : X.A.guards = some []) (tt : Takes X W) (hbn : BnD st y ps ks n dvs.length ix) (hm : ks.length = m) (ha : DA X W (e :: es) t) (hkw : DK X W kws tk)
    (hdv : dvs.all dfOk = true := by decide)
    (hall : (backToKw pos (keywordEach kws X.env)).all (·.1.isSome) = true := by rfl) (hks : (backToKw pos (keywordEach kws X.env)).filterMap (·.1) = ks := by rfl)
    (hg : Gl X x := by rfl) (hdb : (x == ("__debug__" : Str)) = false := by decide) (he : starEach (e :: es) X.env = (false, eval e X.env) :: starEach es X.env := by rfl)
    (hpl : ((backTo pos (starEach (e :: es) X.env)).any (·.1) || (backToKw pos (keywordEach kws X.env)).any (·.1.isNone)) = false := by rfl) :
    DE X W (.Call (.Name x p) (e :: es) kws pos) (dCallN n m ix dvs g t tk) := by
  obtain ⟨f, fd, hmg, F, FD⟩ := dd.ex
  obtain ⟨its, rT, hb⟩ := knD F (ps := ps) (ks := ks) (n := n) (ix := ix) (by rw [List.length_map]; exact hbn)
  refine ⟨fun pins s σ H Q I ⟨z, ρ, M, R, E, hs, hm2, h, hc, hE⟩ => ?_⟩
  refine wpAny_Call_Name_kw (ld_glob I hg hmg ?_ hdb)
  refine PySem.W.callWith_KW (h₀ := X.base) I.ok.mod.kin F.kp hall (thn (ha.run pos pins s σ H (fun vs H1 => liftA X.K W tk σ H1 fun zs H2 => vs.length = n ∧ zs.length = m ∧ spD X.K g (pmX ix (vs ++ (dvs.map dfV ++ zs))) H2 Q fun cls d H' => W cls d σ H') I
    ⟨z, ρ, M, _, E, hs, hm2, h, fun ds M1 vs H1 h1 m1 r1 e1 => ⟨z, ρ, M1, _, E, hs.ext e1, m1, h1, fun es M2 zs H2 h2 m2 r2 e2 => ⟨(r1.length).trans h2.1, (r2.length).trans h2.2.1, z, _, M2, R, _, pmX_rel ((e2.all r1).append ((df_rels hdv).append r2)) ix, m2, h2.2.2, hc.ext (e1.trans e2), fun x M' cls d H' a b c f => hE x ρ M' cls d σ H' a b (hs.ext ((e1.trans e2).trans f)) c ((e1.trans e2).trans f)⟩, hE.ext e1⟩, hE⟩) fun us s1 ⟨vs, H1, I1, r, q⟩ => ?_) hpl he
  refine thn (hkw.run pos pins s1 σ H1 _ I1 q) fun ws s2 ⟨zs, H2, I2, rz, l1, l2, q2⟩ => ⟨I2.kIn, ?_⟩
  rw [hks]
  exact callN_end FD hr hG tt hdv rT hb I2 r rz l1 (l2.trans hm.symm) q2
theorem de_callN0 (dd : DfD X.prog X.w X.K X.mg X.base x y st dvs ps k g) (hr : Room k X.A) (hG : X.A.guards = some []) (tt : Takes X W) (hbn : BnD st y ps ks 0 dvs.length ix) (hm : ks.length = m) (hkw : DK X W kws tk)
    (hdv : dvs.all dfOk = true := by decide)
    (hall : (backToKw pos (keywordEach kws X.env)).all (·.1.isSome) = true := by rfl) (hks : (backToKw pos (keywordEach kws X.env)).filterMap (·.1) = ks := by rfl)
    (hg : Gl X x := by rfl) (hdb : (x == ("__debug__" : Str)) = false := by decide)
    (hpl : ((backTo pos (starEach [] X.env)).any (·.1) || (backToKw pos (keywordEach kws X.env)).any (·.1.isNone)) = false := by rfl) :
    DE X W (.Call (.Name x p) [] kws pos) (dCallN 0 m ix dvs g dNil tk) := by
  obtain ⟨f, fd, hmg, F, FD⟩ := dd.ex
  obtain ⟨its, rT, hb⟩ := knD F (ps := ps) (ks := ks) (n := 0) (ix := ix) (by rw [List.length_map]; exact hbn)
  refine ⟨fun pins s σ H Q I ⟨z, ρ, M, R, E, hs, hm2, h, hc, hE⟩ => ?_⟩
  refine wpAny_Call_Name_kw (ld_glob I hg hmg ?_ hdb)
  refine PySem.W.callWith_KW0 (h₀ := X.base) I.ok.mod.kin F.kp hall (thn (hkw.run pos pins s σ H (fun zs H2 => zs.length = m ∧ spD X.K g (pmX ix ([] ++ (dvs.map dfV ++ zs))) H2 Q fun cls d H' => W cls d σ H') I
    ⟨z, ρ, M, _, E, hs, hm2, h, fun es M2 zs H2 h2 m2 r2 e2 => ⟨(r2.length).trans h2.2.1, z, _, M2, R, _, pmX_rel (RelA.append RelA.nil ((df_rels hdv).append r2)) ix, m2, h2.2.2, hc.ext e2, fun x M' cls d H' a b c f => hE x ρ M' cls d σ H' a b (hs.ext (e2.trans f)) c (e2.trans f)⟩, hE⟩) fun ws s2 ⟨zs, H2, I2, rz, l2, q2⟩ => ⟨I2.kIn, ?_⟩) hpl
  rw [hks]
  exact callN_end FD hr hG tt hdv rT hb I2 .nil rz rfl (l2.trans hm.symm) q2
theorem v_callN {ρ : Sl} {R : PD} {E : XP} {M : MS} : dCallN n m ix dvs g t tk ρ R E M = t ρ (fun ds M1 => tk ρ (fun es M2 => ds.length = n ∧ es.length = m ∧ g (pmX ix (ds ++ (dvs ++ es))) R (fun x M' => E x ρ M') M2) E M1) E M := (rfl)
/-- the def of a global name as a value -/
def FnV (K : PySem.W.Frag) (mg : Str → Option Value) (x : Str) : Prop := ∃ f, mg x = some (.ref f) ∧ PySem.W.nsIn K mainGlobals x = some (some (.ref f))
theorem de_fn {x : Str} {pos : Pos} (h : FnV X.K X.mg x) (hg : Gl X x := by rfl) (hd : (x == ("__debug__" : Str)) = false := by decide) : DE X W (.Name x pos) (dC (.fn x)) := by
  obtain ⟨f, h1, h2⟩ := h
  exact de_c (pe_glob (v := .ref f) hg h1 rfl hd) fun _ _ _ => .fn h2
/-- the defs that a local may stand for -/
def TkV (P : Program) (w : World) (K : PySem.W.Frag) (mg : Str → Option Value) (base : Heap) (rows : List (Str × G)) (ps : List Str) (k : Nat) : Prop := ∀ x g, (x, g) ∈ rows → Df P w K mg base x ps k g
theorem tv_nil {P : Program} {w : World} {K : PySem.W.Frag} {mg : Str → Option Value} {base : Heap} {ps : List Str} {k : Nat} : TkV P w K mg base [] ps k := fun _ _ h => (List.not_mem_nil h).elim
theorem tv_cons {P : Program} {w : World} {K : PySem.W.Frag} {mg : Str → Option Value} {base : Heap} {rows : List (Str × G)} {ps : List Str} {k : Nat} {x : Str} {g : G} (D : Df P w K mg base x ps k g) (h : TkV P w K mg base rows ps k) :
    TkV P w K mg base ((x, g) :: rows) ps k := fun y g' hy => by
  rcases List.mem_cons.mp hy with e | hy
  · cases e
    exact D
  · exact h y g' hy
theorem Df.mono {P : Program} {w : World} {K : PySem.W.Frag} {mg : Str → Option Value} {base : Heap} {ps ps' : List Str} {j k : Nat} {x : Str} {g : G} (D : Df P w K mg base x ps j g) (h : j ≤ k) : Df P w K mg base x ps k g := by
  obtain ⟨f, fd, h1, h2, h3, F⟩ := D.ex
  exact ⟨f, fd, h1, h2, h3, F.mono h⟩
/-- how many parameters there are, their names left open -/
def DfA (P : Program) (w : World) (K : PySem.W.Frag) (mg : Str → Option Value) (base : Heap) (rows : List (Str × G)) (k : Nat) : Prop := ∀ x g, (x, g) ∈ rows → ∃ ps, Df P w K mg base x ps k g
theorem ta_nil {P : Program} {w : World} {K : PySem.W.Frag} {mg : Str → Option Value} {base : Heap} {k : Nat} : DfA P w K mg base [] k := fun _ _ h => (List.not_mem_nil h).elim
theorem ta_cons {P : Program} {w : World} {K : PySem.W.Frag} {mg : Str → Option Value} {base : Heap} {rows : List (Str × G)} {ps : List Str} {j k : Nat} {x : Str} {g : G} (D : Df P w K mg base x ps j g) (hk : j ≤ k) (h : DfA P w K mg base rows k) :
    DfA P w K mg base ((x, g) :: rows) k := fun y g' hy => by
  rcases List.mem_cons.mp hy with e | hy
  · cases e
    exact ⟨ps, Df.mono (ps' := ps) D hk⟩
  · exact h y g' hy
def dCallV (rows : List (Str × G)) (tk : DTE) (t : DTA) : DTE := fun ρ R E M => tk ρ (fun d M1 => match d with
  | .fn z => ∃ g, (z, g) ∈ rows ∧ t ρ (fun ds M2 => g ds R (fun x M' => E x ρ M') M2) E M1
  | _ => False) E M
theorem v_callV {rows : List (Str × G)} {tk : DTE} {ρ : Sl} {R : PD} {E : XP} {M : MS} : dCallV rows tk t ρ R E M = tk ρ (fun d M1 => match d with
  | .fn z => ∃ g, (z, g) ∈ rows ∧ t ρ (fun ds M2 => g ds R (fun x M' => E x ρ M') M2) E M1
  | _ => False) E M := (rfl)
/-- a(..) of a local a that stands for a def -/
theorem de_callV {rows : List (Str × G)} {tk : DTE} {a : Str} (T : DfA X.prog X.w X.K X.mg X.base rows k) (hr : Room k X.A) (hG : X.A.guards = some []) (tt : Takes X W) (hv : DE X W (.Name a p) tk) (ha : DA X W (e :: es) t)
    (he : starEach (e :: es) X.env = (false, eval e X.env) :: starEach es X.env := by rfl) (hpl : (backTo pos (starEach es X.env)).any (·.1) = false := by rfl) :
    DE X W (.Call (.Name a p) (e :: es) [] pos) (dCallV rows tk t) := by
  refine ⟨fun pins s σ H Q I ⟨z, ρ, M, R, E, hs, hm2, h, hc, hE⟩ => ?_⟩
  have h1 : lift X.K W tk σ H (fun y H1 => ∃ f fd g ps, y = .ref f ∧ PySem.W.keepIn X.K (.ref f) = true ∧ Binds X.K fd ps [] ∧ FnD X.prog X.w X.K X.mg X.base k f fd ps g ∧
      liftA X.K W t σ H1 (fun vs H2 => spD X.K g vs H2 Q fun cls d H' => W cls d σ H')) := by
    refine ⟨z, ρ, M, _, E, hs, hm2, h, fun dv M1 v H1 h1 m1 r1 e1 => ?_, hE⟩
    simp only at h1
    split at h1
    · obtain ⟨g, hmem, h2⟩ := h1
      cases r1 with
      | fn hx =>
        obtain ⟨ps, D⟩ := T _ _ hmem
        obtain ⟨f, fd, e1', e2, e3, F⟩ := D.ex
        have hmg := PySem.W.mg_of I.ok.mod.kin I.ok.mod.glob hx
        rw [hmg] at e1'
        cases e1'
        exact ⟨_, fd, g, ps, rfl, e2, e3, F, z, ρ, M1, _, E, hs.ext e1, m1, h2, fun ds M2 vs H2 g2 m2 r2 e2 => ⟨z, ds, M2, R, _, r2, m2, g2, hc.ext (e1.trans e2), fun x M' cls d H' a b c f => hE x ρ M' cls d σ H' a b (hs.ext ((e1.trans e2).trans f)) c ((e1.trans e2).trans f)⟩, hE.ext e1⟩
    · exact h1.elim
  refine wpAny_Call_Name_kw (thn (hv.run pins s σ H _ I h1) fun u s1 ⟨y, H1, I1, ry, f, fd, g, ps, ey, kk, hb, F, q⟩ => ?_)
  subst ey
  obtain rfl : u = Value.ref f := ry
  refine PySem.W.callWith_K (h₀ := X.base) I1.ok.mod.kin kk (thn (ha.run pos pins s1 σ H1 _ I1 q) fun us s2 ⟨vs, H2, I2, r, q2⟩ => ⟨I2.kIn, ?_⟩) he hpl
  have hl : us.length = ps.length := by
    obtain ⟨z, ds, M1, R1, RE, ra, _, gg, _⟩ := q2
    rw [← r.length, ra.length]
    exact F.len _ _ _ _ gg
  have bb := hb s2 us I2.kIn (by rw [List.append_nil]; exact hl)
  rw [List.append_nil] at bb
  refine wpAny_call (codeAny_mono (F.run X.A X.stack s2 H2 ⟨us, []⟩ us vs Q _ hr hG I2.env0 bb r q2) fun res s' hq => ?_)
  cases res with
  | error e' => exact passAt tt σ pins H2 s2 e' s' I2 hq
  | ok fl =>
    cases fl with
    | ret u => exact I2.after hq
    | next => exact False.elim hq
    | brk => exact False.elim hq
    | cont => exact False.elim hq
theorem q_and1 {i : Int} {R : PD} {M : MS} : andD (.int i) (.int 1) R M = R (.int (i % 2)) M := by
  show R (.int (Builtin.bitAnd i 1)) M = _
  rw [bitAnd_m1]
end
end L2.DL
/-! DLzm: functions that an expression makes (lambda): their making, what they promise, their call -/
namespace L2.DL
open PySem PySem.Spec PyProof.Rows LamX NdefX
variable [Tbs]
def LFn.nf (F : LFn) : NF := ⟨"<lambda>", F.qual, F.params, [], F.scope, F.cl, F.c⟩
theorem fnL_at {P : Program} {w : World} {H : Hp} {h : Heap} {f : Addr} {F : LFn} (hok : HOk P w H h) (e : H f = some (FnL f F)) : ∃ pm ctv : Value, h.get? f = some (PySem.W.kla_obj "<lambda>" F.qual F.params F.body F.scope F.cl pm F.c ctv) := by
  obtain ⟨z, _, _⟩ := hok f _ e
  exact z
/-- what it promises: g of the arguments and what the captured names hold -/
structure LOk (P : Program) (w : World) (K : PySem.W.Frag) (mg : Str → Option Value) (base : Heap) (k : Nat) (F : LFn) (ps fr : List Str) (g : G) : Prop where
  len : ∀ ds R E M, g ds R E M → ds.length = ps.length + fr.length
  run : ∀ (f : Addr) (A : Around) (outer : List Env) (s : Shared) (H : Hp) (us : List Value) (vs ws : List V) (Q : VK) (E : XK), Room k A → A.guards = some [] → Env0 P w K mg base A outer s H → H f = some (FnL f F) → H F.c = some (CodeO F.c F.qual) →
    CellsAt F.cl fr (ws.map some) s.heap H → Vals vs us → spD K g (vs ++ ws) H Q E → codeAny (model P w) A (.call (.ref f) ⟨us, []⟩) (CR (L2.CX P w) outer P w H s Q E) s
theorem LOk.mono {P : Program} {w : World} {K : PySem.W.Frag} {mg : Str → Option Value} {base : Heap} {j k : Nat} {F : LFn} {ps fr : List Str} {g : G} (L : LOk P w K mg base j F ps fr g) (h : j ≤ k) : LOk P w K mg base k F ps fr g :=
  ⟨L.len, fun f A outer s H us vs ws Q E hr => L.run f A outer s H us vs ws Q E (hr.mono h)⟩
theorem startF_eq {N : List Str} {vs ws : List V} : startF N vs (ws.map some) = L2.start N (vs ++ ws) := by
  unfold startF L2.start
  rw [List.length_map, List.map_append, List.append_assoc, List.length_append, Nat.sub_add_eq]
section
variable {P : Program} {w : World} {K : PySem.W.Frag} {mg : Str → Option Value} {base : Heap} {N ps fr : List Str} {F : LFn} {k : Nat} {g : G} {te : DTE}
theorem LOk.of (S : NScope N ps fr F.scope) (hb : ∀ (pm ctv : Value) (us : List Value), us.length = ps.length → bindArgs (PySem.W.kla_fn "<lambda>" F.qual F.params F.body F.scope F.cl pm (.ref F.c) ctv) ⟨us, []⟩ = pure (ps.zip us))
    (len : ∀ ds R E M, g ds R E M → ds.length = ps.length + fr.length)
    (hbody : ∀ (f : Addr) (A : Around) (outer : List Env) (s : Shared) (H : Hp) (E : XK), Room k (A.deeper (envF F.nf f s.heap.objs.size)) → (A.deeper (envF F.nf f s.heap.objs.size)).guards = some [] → DE (ncx (L2.CX P w) P w K mg base N F.nf f A outer s H E) (WB E) F.body te)
    (hg : ∀ ds R RE M, g ds R RE M → te (startD N ds) (Rw R) (fun x _ M' => ∃ M2, Le M2 M' ∧ RE x M2) M) : LOk P w K mg base (k + 1) F ps fr g := by
  refine ⟨len, fun f A outer s H us vs ws Q E hr hG e0 hf hc C r hsp => ?_⟩
  obtain ⟨z, ds, M, R, RE, ra, rm, hgg, hcont, hex⟩ := hsp
  have l1 := len _ _ _ _ hgg
  have l2 := ra.length
  have l3 := C.len
  rw [List.length_map] at l3
  rw [List.length_append] at l2
  have hl : vs.length = ps.length := by omega
  have lim : s.heap.NoLimit := e0.mod.nolimit.keeps fun b o e => (e0.bs b o e).1
  obtain ⟨pm, ctv, ho⟩ := fnL_at e0.hok hf
  refine PySem.W.kla_callFunE hr.depth ho rfl S.co S.gen rfl (codeO_at e0.hok hc) ?_
  rw [hb pm ctv us (by rw [← r.length]; exact hl)]
  refine wpAny_pure (wpAny_newFunctionEnv S.nocell (fun ⟨n, _⟩ hy => S.par n (List.of_mem_zip hy).1) (fun h₁ hns hsb => ⟨lim.fresh _ hsb, ?_⟩) S.kind)
  show codeAny _ _ (.expr F.body (envF F.nf f s.heap.objs.size)) _ _
  have kp : ∀ b o, s.heap.get? b = some o → h₁.get? b = some o := fun b o e => hsb.extBut b o (Nat.ne_of_lt (Heap.lt_size e)) (Heap.get?_push_of_some _ e)
  have I : Inv (ncx (L2.CX P w) P w K mg base N F.nf f A outer s H E) [] (startF N vs (ws.map some)) H { s with heap := h₁, toks := s.toks + (ps.zip us).length } := inv_startN (F := F.nf) S hr.hd e0 hl r C hns kp
  rw [startF_eq] at I
  have nl : ds.length ≤ N.length := by
    have z := congrArg List.length S.pre
    rw [List.length_take, List.length_append] at z
    omega
  have T := hbody f A outer s H E (hr.deeper _) hG
  have reading : lift K (WB E) te (L2.start N (vs ++ ws)) H Q := by
    refine ⟨z, startD N ds, M, Rw R, _, relS_start ra nl, rm, hg ds R RE M hgg, ?_, ?_⟩
    · rintro d M' v H' ⟨d', M2, wk, q⟩ m r e
      exact hcont d' M2 v H' q (m.le wk.1) (wk.2 _ H' _ m r) (e.trans (Ext.le wk.1))
    · rintro x ρ' M' cls d σ' H' ⟨M2, l, q⟩ m s rx e
      exact hex x M2 cls d H' q (m.le l) (relX_le l rx) (e.trans (Ext.le l))
  refine PySem.W.kla_codeExpr (wpAny_mono (T.run [] _ _ H Q I reading) (fun u s' hq => ?_) fun e s' hq => hq)
  obtain ⟨v, H', J, rv, q⟩ := hq
  exact ⟨v, H', J.os, J.bare, J.base, J.hok, rv, q⟩
end
/-! ### the making -/
section
variable {X : Cx} {pins : List (Addr × Obj)} {σ : L2.St} {H : Hp} {s : Shared}
/-- a function object just made is known from now on -/
theorem inv_fnL {F : LFn} {o : Obj} {t' : Nat} {pm ctv : Value} (I : Inv X pins σ H s) (ho : o = PySem.W.kla_obj "<lambda>" F.qual F.params F.body F.scope F.cl pm F.c ctv) :
    Inv X pins σ (upd H s.heap.objs.size (FnL s.heap.objs.size F)) { s with heap := s.heap.push o, toks := t' } := by
  subst ho
  refine I.laid (a := s.heap.objs.size) (fun b u e => Heap.get?_push_of_some _ e) (Nat.le_refl _) ?_
  have e : (s.heap.push (PySem.W.kla_obj "<lambda>" F.qual F.params F.body F.scope F.cl pm F.c ctv)).get? s.heap.objs.size = some (PySem.W.kla_obj "<lambda>" F.qual F.params F.body F.scope F.cl pm F.c ctv) := Heap.get?_push_size _ rfl
  exact ⟨⟨pm, ctv, e⟩, ⟨_, e⟩, fun h1 h2 ⟨p, t, z⟩ st => ⟨p, t, st _ z⟩⟩
/-- the function is made: its code object is new, or found in the table; what the store and the hidden lists bear stays -/
theorem lam_make3 {nm : Nat → Nat → Str} {c P : Addr} {params : Arguments} {body : Expr} {scope : Scope} {pos : Pos} {E : Value → Shared → Prop} {Q : Value → Shared → Prop} {z : Hd} {M : MS} (I : Inv X pins σ H s) (TB : TabB X.base X.mg c P) (hcode : X.env.code = .ref c)
    (hm : (P, nm) ∈ Tbs.T) (hn : nm pos.line pos.col = X.env.qual ++ "<lambda>") (hu : ∀ p ∈ Tbs.T, p.1 = P → p.2 = nm) (m : RelM ⟨X.K, z⟩ H M) (hdef : defaultsOf params X.env = ([], [])) (hfree : ∀ y ∈ scope.names, y.2 = .free → ∃ c, X.env.cells.lookup y.1 = some c)
    (h : ∀ (f c' : Addr) (H1 : Hp) (s' : Shared), Inv X pins σ H1 s' → RelM ⟨X.K, z⟩ H1 M → Ext ⟨X.K, z⟩ H M H1 M → Fo ⟨X.K, z⟩ H1 M f (FnL f ⟨X.env.qual ++ "<lambda>", params, body, scope, cloFrom X.env.cells scope.names [], c'⟩) → Fo ⟨X.K, z⟩ H1 M c' (CodeO c' (X.env.qual ++ "<lambda>")) → Q (.ref f) s') :
    wpAny (model X.prog X.w) X.A (eval (.Lambda params body scope pos) X.env) Q E s := by
  obtain ⟨ps, ⟨⟨nMP, nhP⟩, hP⟩, ht, ha⟩ := m.tab _ hm
  refine PySem.W.kla_eval hdef ?_
  have bP : s.heap.BuiltinsAt X.mg P := TB.bm.keeps I.bk
  have hP' : s.heap.get? P = some { cls := .none, data := .fields ps } := I.hok P _ hP
  cases hc : codeAmong pos ps.toList with
  | none =>
    refine PySem.W.kla_makeFunction (mg := X.mg) (c := c) (P := P) (ps := ps) (closure_ok hfree) I.ok.glob (I.mod.glob.keeps I.bk) hcode (TB.code.keeps I.bk) hP' ht hc TB.gP bP fun c' ctv h' tk hx hge hlt hrec htb => ?_
    obtain ⟨c2, oc, vs, t, e2, hoc, hd, hv⟩ := hrec
    cases e2
    have nC : H c' = none := I.hok.fresh hge
    have I1 := inv_table (t' := tk) (more := #[rawInt pos.line, rawInt pos.col, .ref c']) (h' := h') I hP (fun b o hb e => hx b o hb e) htb hge ⟨oc, vs, t, hoc, hd, hv⟩
    have nPc : P ≠ c' := ne_of_none hP nC
    -- what is borne
    have fo : FoExt ⟨X.K, z⟩ (upd H P (.tbl ps)) M ⟨X.K, z⟩ (upd H P (.tbl ps)) M := fun _ _ _ s => s
    have atO : ∀ b o, H b = some o → b ≠ P → upd (upd H P (.tbl (ps ++ #[rawInt pos.line, rawInt pos.col, .ref c']))) c' (CodeO c' (X.env.qual ++ "<lambda>")) b = some o := fun b o e n => by
      rw [upd_ne (ne_of_none e nC), upd_ne n]; exact e
    have ext1 : Ext ⟨X.K, z⟩ H M (upd (upd H P (.tbl (ps ++ #[rawInt pos.line, rawInt pos.col, .ref c']))) c' (CodeO c' (X.env.qual ++ "<lambda>"))) M := by
      intro v d r
      refine Rel.mono rfl (fun p xs s => ?_) (fun p o _ nt s => ⟨s.1, atO p o s.2 fun zz => nt ps (Option.some.inj (s.2.symm.trans (by rw [zz]; exact hP)))⟩) (fun p xs s => ?_) d v r
      · exact sqT_upd (sqT_upd s (.inr ⟨_, hP, fun ys => ⟨fun z => (nomatch z), fun ob z => (nomatch z)⟩⟩)) (.inl (by rw [upd_ne nPc.symm]; exact nC))
      · exact sc_upd (sc_upd s (.inr ⟨_, hP, fun ys ob z => nomatch z⟩)) (.inl (by rw [upd_ne nPc.symm]; exact nC))
    have rm1 : RelM ⟨X.K, z⟩ (upd (upd H P (.tbl (ps ++ #[rawInt pos.line, rawInt pos.col, .ref c']))) c' (CodeO c' (X.env.qual ++ "<lambda>"))) M := by
      refine ⟨fun a mo e => ?_, fun a vs e => ?_, fun p hp => ?_⟩
      · obtain ⟨u, q, _⟩ := (m.at' a mo e).some
        exact (m.at' a mo e).ext ext1 ((atO a u q (fun zz => by rw [zz, nMP] at e; cases e)).trans q.symm)
      · obtain ⟨q1, q2⟩ := m.hid a vs e
        exact ⟨q1, atO a _ q2 fun zz => by rw [zz, hP] at q2; cases q2⟩
      · by_cases hb : p.1 = P
        · have hp2 := hu p hp hb
          refine ⟨_, ⟨⟨by rw [hb]; exact nMP, by rw [hb]; exact nhP⟩, by rw [hb, upd_ne nPc, upd_same]⟩, ?_, fun p' cv hcv => ?_⟩
          · rw [show (ps ++ #[rawInt pos.line, rawInt pos.col, .ref c']).toList = ps.toList ++ [rawInt pos.line, rawInt pos.col, .ref c'] by simp]
            exact PySem.TriplesOk_snoc _ _ _ _ ht
          · rw [show (ps ++ #[rawInt pos.line, rawInt pos.col, .ref c']).toList = ps.toList ++ [rawInt pos.line, rawInt pos.col, .ref c'] by simp] at hcv
            rcases among_app2 _ ht hcv with q | ⟨q, q1, q2⟩
            · obtain ⟨c0, e1, e2⟩ := ha p' cv q
              refine ⟨c0, e1, e2.1, ?_⟩
              rw [hp2]
              exact atO c0 _ e2.2 fun zz => by have := e2.2; rw [zz, hP] at this; cases this
            · refine ⟨c', q, ⟨m.free nC, m.freeH nC⟩, ?_⟩
              rw [hp2, ← q1, ← q2, hn]
              exact upd_same
        · obtain ⟨ps', a1, a2, a3⟩ := m.tab p hp
          refine ⟨ps', ⟨a1.1, atO _ _ a1.2 hb⟩, a2, fun p' cv hcv => ?_⟩
          obtain ⟨c0, e1, e2⟩ := a3 p' cv hcv
          exact ⟨c0, e1, e2.1, atO c0 _ e2.2 fun zz => by have := e2.2; rw [zz, hP] at this; cases this⟩
    have nF := I1.hok.fresh (Nat.le_refl _)
    have I2 := inv_fnL (F := ⟨X.env.qual ++ "<lambda>", params, body, scope, cloFrom X.env.cells scope.names [], c'⟩) (t' := tk) (pm := (X.mg "__name__").getD .none) (ctv := ctv) I1 rfl
    refine h h'.objs.size c' _ _ I2 (relM_new rm1 nF) (ext1.trans (ext_new rm1 nF)) ⟨⟨rm1.free nF, rm1.freeH nF⟩, upd_same⟩ ⟨⟨m.free nC, m.freeH nC⟩, ?_⟩
    exact (upd_ne (Nat.ne_of_lt hlt)).trans upd_same
  | some cv =>
    obtain ⟨c', e, hco⟩ := ha pos cv hc
    subst e
    refine PySem.W.kla_makeFunctionHit (mg := X.mg) (c := c) (P := P) (ps := ps) (closure_ok hfree) I.ok.glob (I.mod.glob.keeps I.bk) hcode (TB.code.keeps I.bk) hP' ht hc bP fun ctv h' tk hx hsz => ?_
    have I1 : Inv X pins σ H { s with heap := h', toks := tk } := I.kept hx
    have nF : H h'.objs.size = none := I1.hok.fresh (Nat.le_refl _)
    have I2 := inv_fnL (F := ⟨X.env.qual ++ "<lambda>", params, body, scope, cloFrom X.env.cells scope.names [], c'⟩) (t' := tk) (pm := (X.mg "__name__").getD .none) (ctv := ctv) I1 rfl
    have hco : Fo ⟨X.K, z⟩ H M c' (CodeO c' (nm pos.line pos.col)) := hco
    rw [hn] at hco
    exact h h'.objs.size c' _ _ I2 (relM_new m nF) (ext_new m nF) ⟨⟨m.free nF, m.freeH nF⟩, upd_same⟩ (fo_new nF _ _ (.ext _) hco)
end
/-! ### handed on in a call, as the last argument -/
/-- what the captured names hold -/
def capD (ρ : Sl) : List Nat → Option (List D)
  | [] => some []
  | j :: js => match sl ρ j with
    | some d => match capD ρ js with
      | some ds => some (d :: ds)
      | none => none
    | none => none
theorem v_capN {ρ : Sl} : capD ρ [] = some [] := (rfl)
theorem v_capC {ρ : Sl} {j : Nat} {js : List Nat} : capD ρ (j :: js) = match sl ρ j with
    | some d => match capD ρ js with
      | some ds => some (d :: ds)
      | none => none
    | none => none := (rfl)
theorem capD_of {K : ZK} {H : Hp} {M : MS} {σ : St} {ρ : Sl} (hs : RelS K H M σ ρ) : ∀ {js : List Nat} {cs : List D}, capD ρ js = some cs → ∃ ws : List V, ws.map some = js.map (NdefX.slotAt σ) ∧ RelA K H M ws cs
  | [], cs, h => by cases h; exact ⟨[], rfl, .nil⟩
  | j :: js, cs, h => by
    rw [v_capC] at h
    cases e1 : sl ρ j with
    | none => rw [e1] at h; cases h
    | some d =>
      rw [e1] at h
      cases e2 : capD ρ js with
      | none => rw [e2] at h; cases h
      | some ds =>
        rw [e2] at h
        cases h
        obtain ⟨ws, h1, h2⟩ := capD_of hs e2
        obtain ⟨v, q, r⟩ := hs.2 j d (sl_get e1)
        exact ⟨v :: ws, by rw [List.map_cons, List.map_cons, h1, slotAt_of q], .cons r h2⟩
abbrev DTL := Sl → (List D → List D → MS → Prop) → XP → MS → Prop
def dLamE (js : List Nat) : DTL := fun ρ R _ M => ∃ cs, capD ρ js = some cs ∧ R [] cs M
def dConsL (te : DTE) (t : DTL) : DTL := fun ρ R E M => te ρ (fun x M1 => t ρ (fun xs cs M2 => R (x :: xs) cs M2) E M1) E M
/-- the words of a function that this expression makes here -/
def LmOf (X : Cx) (e : Expr) (F : LFn) : Prop := ∃ pos, e = .Lambda F.params F.body F.scope pos ∧ F.cl = cloFrom X.env.cells F.scope.names []
def liftL (X : Cx) (W : WX) (e : Expr) (js : List Nat) (t : DTL) : TA := fun σ H Q => ∃ (z : Hd) (ρ : Sl) (M : MS) (R : List D → List D → MS → Prop) (E : XP), RelS ⟨X.K, z⟩ H M σ ρ ∧ RelM ⟨X.K, z⟩ H M ∧ t ρ R E M ∧
  (∀ ds cs M' vs ws F f H', R ds cs M' → RelM ⟨X.K, z⟩ H' M' → RelA ⟨X.K, z⟩ H' M' vs ds → Rel ⟨X.K, z⟩ H' M' (.ref f) (.clo F ws cs) → LmOf X e F → ws.map some = js.map (NdefX.slotAt σ) → Ext ⟨X.K, z⟩ H M H' M' → Q (vs ++ [.ref f]) H') ∧ XOk ⟨X.K, z⟩ H M W E
abbrev DAL (X : Cx) (W : WX) (e : Expr) (js : List Nat) (es : List Expr) (t : DTL) : Prop := PA X es (liftL X W e js t)
section
variable {X : Cx} {W : WX} {e l : Expr} {es : List Expr} {te : DTE} {t : DTL} {js : List Nat}
/-- what is to be known of the place where the function is made -/
structure LamAt (X : Cx) (l : Expr) : Prop where
  ex : ∃ params body scope pos, l = .Lambda params body scope pos ∧ defaultsOf params X.env = ([], []) ∧ (∀ y ∈ scope.names, y.2 = .free → X.env.scope.names.lookup y.1 = some .cell ∨ X.env.scope.names.lookup y.1 = some .free) ∧
    ∃ c P nm, TabB X.base X.mg c P ∧ X.env.code = .ref c ∧ (P, nm) ∈ Tbs.T ∧ nm pos.line pos.col = X.env.qual ++ "<lambda>" ∧ ∀ p ∈ Tbs.T, p.1 = P → p.2 = nm
theorem dal_lam (L : LamAt X l) : DAL X W l js [l] (dLamE js) := by
  obtain ⟨params, body, scope, lpos, rfl, hdef, hfr, c, P, nm, TB, hcode, hm, hn, hu⟩ := L.ex
  refine ⟨fun pos pins s σ H Q I ⟨z, ρ, M, R, E, hs, hm2, ⟨cs, hc, h⟩, hk, hE⟩ => ?_⟩
  obtain ⟨ws, hw, rw'⟩ := capD_of hs hc
  refine Calls.spliced_cons (lam_make3 I TB hcode hm hn hu hm2 hdef (fun y hy e => (hfr y hy e).elim (fun k => I.ok.has _ (.inl k)) fun k => I.ok.has _ (.inr k)) fun f c' H1 s' I1 m1 e1 f1 f2 => Calls.spliced_nil ?_)
  exact ⟨[.ref f], H1, I1, .cons rfl .nil, hk [] cs M [] ws _ f H1 h m1 .nil (.clo f1 f2 (e1.all rw')) ⟨lpos, rfl, rfl⟩ hw e1⟩
theorem dal_cons (ha : DE X W e te) (hr : DAL X W l js es t) (hs : starEach (e :: es) X.env = (false, eval e X.env) :: starEach es X.env := by rfl) : DAL X W l js (e :: es) (dConsL te t) :=
  impA (pa_cons ha hr hs) fun σ H Q ⟨z, ρ, M, R, E, hs, hm, h, hc, hE⟩ =>
    ⟨z, ρ, M, _, E, hs, hm, h, fun d M1 v H1 h1 m1 r1 e1 => ⟨z, ρ, M1, _, E, hs.ext e1, m1, h1, fun ds cs M2 vs ws F f H2 h2 m2 r2 rf lm hw e2 => hc (d :: ds) cs M2 (v :: vs) ws F f H2 h2 m2 (.cons (e2 _ _ r1) r2) rf lm hw (e1.trans e2), hE.ext e1⟩, hE⟩
end
/-- a heap that has all that another one has -/
def BE (b b' : Heap) : Prop := ∀ a o, b.get? a = some o → b'.get? a = some o
theorem BE.refl {b : Heap} : BE b b := fun _ _ e => e
theorem BE.trans {b c d : Heap} (h : BE b c) (k : BE c d) : BE b d := fun a o e => k a o (h a o e)
theorem TabB.be {b b' : Heap} {mg : Str → Option Value} {c P : Addr} (t : TabB b mg c P) (h : BE b b') : TabB b' mg c P := ⟨t.code.keeps h, t.bm.keeps h, t.gP⟩
/-- what the captured cells hold: the heap below the call has them -/
structure CellsB (base : Heap) (cl : List (Str × Addr)) (fr : List Str) (ws : List (Option V)) : Prop where
  len : ws.length = fr.length
  all : ∀ y c, cl.lookup y = some c → ∃ v, base.IsCell c v
  inj : ∀ x y c, cl.lookup x = some c → cl.lookup y = some c → x = y
  has : ∀ (i : Nat) (y : Str), fr[i]? = some y → ∃ c, cl.lookup y = some c ∧ ∀ v, ws[i]? = some (some v) → ∃ u, L2.RelV v u ∧ base.IsCell c (some u)
theorem CellsB.at' {X : Cx} {pins : List (Addr × Obj)} {σ : St} {H : Hp} {s : Shared} {cl : List (Str × Addr)} {fr : List Str} {ws : List (Option V)} (C : CellsB X.base cl fr ws) (I : Inv X pins σ H s) : CellsAt cl fr ws s.heap H := by
  refine ⟨C.len, fun y c e => ?_, C.inj, fun i y e => ?_⟩
  · obtain ⟨v, o, h1, h2⟩ := C.all y c e
    exact ⟨(I.bs c o h1).2, v, o, (I.bs c o h1).1, h2⟩
  · obtain ⟨c, h1, h2⟩ := C.has i y e
    exact ⟨c, h1, fun v q => (h2 v q).elim fun u ⟨r, o, h3, h4⟩ => ⟨u, r, o, (I.bs c o h3).1, h4⟩⟩
def cps (cl : List (Str × Addr)) : List Addr := cl.filterMap fun p => cl.lookup p.1
theorem cps_mem {cl : List (Str × Addr)} {c : Addr} (h : c ∈ cps cl) : ∃ y, cl.lookup y = some c := by
  obtain ⟨p, _, e⟩ := List.mem_filterMap.mp h
  exact ⟨p.1, e⟩
/-- the heap below a call: what lay below, and the cells that the function captured -/
def baseX (base h : Heap) (cl : List (Str × Addr)) : Heap := PySem.W.hideAll h ((List.range h.objs.size).filter fun b => (base.get? b).isNone && !(cps cl).contains b)
section
variable {base h : Heap} {cl : List (Str × Addr)}
theorem baseX_of {b : Addr} {o : Obj} (e : (baseX base h cl).get? b = some o) : h.get? b = some o ∧ ((∃ o', base.get? b = some o') ∨ b ∈ cps cl) := by
  have e' : h.get? b = some o := PySem.W.of_hideAll _ e
  refine ⟨e', ?_⟩
  by_cases c1 : (base.get? b).isNone = true
  · by_cases c2 : (cps cl).contains b = true
    · exact .inr (by simpa using c2)
    · have hm : b ∈ (List.range h.objs.size).filter fun b => (base.get? b).isNone && !(cps cl).contains b := List.mem_filter.mpr ⟨List.mem_range.mpr (Heap.lt_size e'), by rw [c1]; simpa using c2⟩
      have z := PySem.W.hideAll_none _ (h := h) hm
      unfold baseX at e
      rw [z] at e
      cases e
  · refine .inl ?_
    cases q : base.get? b with
    | none => rw [q] at c1; exact absurd rfl c1
    | some o' => exact ⟨o', rfl⟩
theorem baseX_old {b : Addr} {o : Obj} (e : h.get? b = some o) (k : ∃ o', base.get? b = some o') : (baseX base h cl).get? b = some o := by
  refine PySem.W.hideAll_get _ e fun hm => ?_
  obtain ⟨o', q⟩ := k
  have z := (List.mem_filter.mp hm).2
  rw [q] at z
  simp at z
theorem baseX_cell {b : Addr} {o : Obj} (e : h.get? b = some o) (k : b ∈ cps cl) : (baseX base h cl).get? b = some o := by
  refine PySem.W.hideAll_get _ e fun hm => ?_
  have z := (List.mem_filter.mp hm).2
  rw [show (cps cl).contains b = true by simpa using k] at z
  simp at z
theorem lookup_snd {y : Str} {c : Addr} (e : cl.lookup y = some c) : c ∈ cps cl := List.mem_filterMap.mpr ⟨(y, c), PySem.mem_of_lookup e, e⟩
end
theorem funs_more {h base base' : Heap} : ∀ {l : List Env}, h.FunFrames base l → (∀ b ∈ frs l, base.get? b = none → base'.get? b = none) → h.FunFrames base' l
  | [], _, _ => trivial
  | env :: rest, ⟨hk, ⟨L, o, hf, hn, ho, hd⟩, hr⟩, k => ⟨hk, ⟨L, o, hf, k L (by rw [frs, List.filterMap_cons, hf]; exact .head _) hn, ho, hd⟩, funs_more hr fun b hb => k b (by rw [frs, List.filterMap_cons, hf]; exact .tail _ hb)⟩
section
variable {P : Program} {w : World} {K : PySem.W.Frag} {mg : Str → Option Value} {base : Heap} {A : Around} {outer : List Env} {s : Shared} {H : Hp} {cl : List (Str × Addr)}
theorem be_baseX (e0 : Env0 P w K mg base A outer s H) : BE base (baseX base s.heap cl) := fun a o e => baseX_old (e0.bs a o e).1 ⟨o, e⟩
/-- the call may count the cells to what lies below -/
theorem env0_more (e0 : Env0 P w K mg base A outer s H) (hc : ∀ y c, cl.lookup y = some c → H c = none ∧ c ∉ frs outer) : Env0 P w K mg (baseX base s.heap cl) A outer s H := by
  have be := be_baseX (cl := cl) e0
  have ns : ∀ {b : Addr} {m : Str → Option Value}, base.Ns b m → (baseX base s.heap cl).Ns b m := fun ⟨o, es, ep, e, d, r⟩ => ⟨o, es, ep, be _ _ e, d, r⟩
  refine ⟨e0.frames, ⟨e0.mod.kin.keeps be, ns e0.mod.glob, let ⟨mb, h1, h2⟩ := e0.mod.blt; ⟨mb, ns h1, h2⟩, e0.mod.nolimit.keeps be⟩, fun b o e => ?_, ?_, ?_, e0.frf, e0.hok, e0.bare⟩
  · obtain ⟨h1, h2⟩ := baseX_of e
    refine ⟨h1, ?_⟩
    rcases h2 with ⟨o', q⟩ | q
    · exact (e0.bs b o' q).2
    · obtain ⟨y, hy⟩ := cps_mem q
      exact (hc y b hy).1
  · exact Nat.le_of_eq (PySem.W.hideAll_size _ _)
  · refine funs_more e0.funs fun b hb n => ?_
    cases q : (baseX base s.heap cl).get? b with
    | none => rfl
    | some o =>
      obtain ⟨h1, h2⟩ := baseX_of q
      rcases h2 with ⟨o', z⟩ | z
      · rw [n] at z; cases z
      · obtain ⟨y, hy⟩ := cps_mem z
        exact absurd hb (hc y b hy).2
theorem cellsB_of {fr : List Str} {ws : List (Option V)} (C : CellsAt cl fr ws s.heap H) : CellsB (baseX base s.heap cl) cl fr ws :=
  ⟨C.len, fun y c e => let ⟨_, v, o, h1, h2⟩ := C.all y c e; ⟨v, o, baseX_cell h1 (lookup_snd e), h2⟩, C.inj, fun i y e => let ⟨c, h1, h2⟩ := C.has i y e; ⟨c, h1, fun v q => let ⟨u, r, o, h3, h4⟩ := h2 v q; ⟨u, r, o, baseX_cell h3 (lookup_snd h1), h4⟩⟩⟩
end
/-- what is known of a function that is handed on: what calling it promises, while its cells lie below -/
structure Ev (P : Program) (w : World) (K : PySem.W.Frag) (mg : Str → Option Value) (base : Heap) (j : Nat) (F : LFn) (ws : List V) (cs : List D) (φ : G) : Prop where
  ex : ∃ ps fr gl, LOk P w K mg base j F ps fr gl ∧ CellsB base F.cl fr (ws.map some) ∧ ∀ as R E M, φ as R E M → gl (as ++ cs) R E M
abbrev GH := LFn → List V → List D → G → G
/-- a def that gets a function -/
structure FnH (P : Program) (w : World) (K : PySem.W.Frag) (mg : Str → Option Value) (base : Heap) (j k : Nat) (f : Addr) (fd : FuncData) (ps : List Str) (g : GH) : Prop where
  len : ∀ F ws cs φ ds R E M, g F ws cs φ ds R E M → ds.length = ps.length
  run : ∀ (F : LFn) (ws : List V) (cs : List D) (φ : G) (A : Around) (outer : List Env) (s : Shared) (H : Hp) (args : Args) (us : List Value) (vs : List V) (Q : VK) (E : XK), Room k A → A.guards = some [] → Env0 P w K mg base A outer s H → Ev P w K mg base j F ws cs φ →
    BindsTo s fd args (ps.zip us) → Vals vs us → spD K (g F ws cs φ) vs H Q E → codeAny (model P w) A (.call (.ref f) args) (CR (L2.CX P w) outer P w H s Q E) s
section
variable {P : Program} {w : World} {K : PySem.W.Frag} {mg : Str → Option Value} {base : Heap}
theorem FnH.of {x qual : Str} {st : Stmt} {f : Addr} {fd : FuncData} {N ps : List Str} {j k : Nat} {g : GH} {tb : LFn → List V → List D → G → DTS} (F : L2.Fun K x qual st f fd) (S : FnScope N ps (defScope st)) (len : ∀ F ws cs φ ds R E M, g F ws cs φ ds R E M → ds.length = ps.length)
    (hb : ∀ (F : LFn) (ws : List V) (cs : List D) (φ : G) (cdv : Value) (A : Around) (outer : List Env) (s : Shared) (H : Hp) (E : XK), Room k (A.deeper (envOfC qual (defScope st) s.heap.objs.size f cdv)) → (A.deeper (envOfC qual (defScope st) s.heap.objs.size f cdv)).guards = some [] → Ev P w K mg base j F ws cs φ →
      DSs (cxOf (L2.CX P w) P w K mg base N qual (defScope st) f cdv A outer s H E) (WB E) (defBody st) (tb F ws cs φ))
    (hg : ∀ F ws cs φ ds R RE M, g F ws cs φ ds R RE M → tb F ws cs φ (ends R RE) (startD N ds) M) : FnH P w K mg base j (k + 1) f fd ps g := by
  obtain ⟨oc, od, kV, doc, pm, an, cdv, ct, osl, rfl, lk, hcd⟩ := F.ex
  refine ⟨len, fun F0 ws cs φ A outer s H args us vs Q E hr hG e0 ev hbd r hsp => ?_⟩
  obtain ⟨z, ds, M, R, RE, ra, rm, hgg, hcont, hex⟩ := hsp
  have z2 := len _ _ _ _ _ _ _ _ hgg
  have hl : vs.length = ps.length := ra.length.trans z2
  have nl : ds.length ≤ N.length := by
    have z := congrArg List.length S.pre
    rw [List.length_take] at z
    omega
  have kx : K.In s.heap := e0.mod.kin.keeps fun b o e => (e0.bs b o e).1
  have nolim : s.heap.NoLimit := e0.mod.nolimit.keeps fun b o e => (e0.bs b o e).1
  have kinds : ∀ y ∈ ps.zip us, (defScope st).names.lookup y.1 = some .local ∨ ((defScope st).names.lookup y.1 = some .cell ∧ ((cellsFrom (s.heap.objs.size + 1) (defScope st).names []).lookup y.1).isSome = true) := by
    rintro ⟨n, v⟩ hy
    rcases S.par n (List.of_mem_zip hy).1 with q | q
    · exact .inl q
    · exact .inr ⟨q, PySem.W.cellsFrom_some _ _ _ (.inl q)⟩
  refine codeAny_call_function hr.depth (kx _ _ lk) rfl S.co S.gen rfl (PySem.W.codeRec_of kx hcd) (hbd _ _ _ _ ?_)
  refine wpAny_newFunctionEnv_cells S.kind kinds fun env he s1 xc => ?_
  subst he
  refine ⟨nolim.keeps xc.toInCall.keep, codeAny_func ?_⟩
  have T := hb F0 ws cs φ cdv A outer s H E (hr.deeper _) hG ev
  have I : Inv (cxOf (L2.CX P w) P w K mg base N qual (defScope st) f cdv A outer s H E) [] (L2.start N vs) H s1 := inv_start S hr.hd e0 hl r xc
  have reading : liftS K (WB E) (tb F0 ws cs φ) { nx := fun _ H' => Q .non H', rt := Q } (L2.start N vs) H := by
    refine ⟨z, startD N ds, M, ends R RE, relS_start ra nl, rm, hg F0 ws cs φ ds R RE M hgg, ?_, ?_, ?_, ?_, ?_⟩
    · rintro ρ' M' σ' H' ⟨d', M2, wk, q⟩ m s e
      exact hcont d' M2 .non H' q (m.le wk.1) (wk.2 _ H' _ m .non) (e.trans (Ext.le wk.1))
    · rintro d M' v H' ⟨d', M2, wk, q⟩ m r e
      exact hcont d' M2 v H' q (m.le wk.1) (wk.2 _ H' _ m r) (e.trans (Ext.le wk.1))
    · intro _ _ _ _ q
      exact q.elim
    · intro _ _ _ _ q
      exact q.elim
    · rintro x ρ' M' cls d σ' H' ⟨M2, l, q⟩ m s rx e
      exact hex x M2 cls d H' q (m.le l) (relX_le l rx) (e.trans (Ext.le l))
  refine wpAny_mono (T.run [] s1 (L2.start N vs) H _ I reading) (fun fl s' hs => ?_) fun e s' hs => hs
  have fin : ∀ {σ' : St} {H' : Hp} {v : V} {u : Value}, Inv (cxOf (L2.CX P w) P w K mg base N qual (defScope st) f cdv A outer s H E) [] σ' H' s' → RelV v u → Q v H' → CE outer P w H s Q u s' :=
    fun {σ' H' v u} J rv q => ⟨v, H', J.os, J.bare, J.base, J.hok, rv, q⟩
  cases fl with
  | ret u =>
    obtain ⟨v, σ', H', J, rv, q⟩ := hs
    exact fin J rv q
  | next =>
    obtain ⟨σ', H', J, q⟩ := hs
    exact fin (v := .non) (u := .none) J rfl q
  | brk => exact (let ⟨_, _, _, q⟩ := hs; q.elim)
  | cont => exact (let ⟨_, _, _, q⟩ := hs; q.elim)
structure DfH (P : Program) (w : World) (K : PySem.W.Frag) (mg : Str → Option Value) (base : Heap) (x : Str) (ps : List Str) (j k : Nat) (g : GH) : Prop where
  ex : ∃ f fd, mg x = some (.ref f) ∧ PySem.W.keepIn K (.ref f) = true ∧ Binds K fd ps [] ∧ FnH P w K mg base j k f fd ps g
theorem DfH.of {x : Str} {st : Stmt} {N ps : List Str} {j k : Nat} {g : GH} {tb : LFn → List V → List D → G → DTS} (T : Tx K mg x st) (S : FnScope N ps (defScope st))
    (bd : ∀ (kV doc pm : Value) (an : Option Addr) (cdv ct : Value) (us : List Value), us.length = ps.length → bindArgs (PySem.W.fnOf x x (defArgs st) (defBody st) (defScope st) .none kV doc pm an cdv ct) ⟨us, []⟩ = pure (ps.zip us))
    (len : ∀ F ws cs φ ds R E M, g F ws cs φ ds R E M → ds.length = ps.length)
    (hb : ∀ (F : LFn) (ws : List V) (cs : List D) (φ : G) (f : Addr) (cdv : Value) (A : Around) (outer : List Env) (s : Shared) (H : Hp) (E : XK), Room k (A.deeper (envOfC x (defScope st) s.heap.objs.size f cdv)) → (A.deeper (envOfC x (defScope st) s.heap.objs.size f cdv)).guards = some [] → Ev P w K mg base j F ws cs φ →
      DSs (cxOf (L2.CX P w) P w K mg base N x (defScope st) f cdv A outer s H E) (WB E) (defBody st) (tb F ws cs φ))
    (hg : ∀ F ws cs φ ds R RE M, g F ws cs φ ds R RE M → tb F ws cs φ (ends R RE) (startD N ds) M) : DfH P w K mg base x ps j (k + 1) g := by
  obtain ⟨f, fd, h1, F⟩ := T.ex
  exact ⟨f, fd, h1, F.kp, F.binds bd, FnH.of F S len (fun F ws cs φ => hb F ws cs φ f) hg⟩
end
/-! ### the calls -/
/-- f(e, .., lambda ..): gl what the function promises of its arguments and what it captured -/
def dCallH (g : GH) (gl : G) (t : DTL) : DTE := fun ρ R E M => t ρ (fun ds cs M1 => ∀ F ws, g F ws cs (fun as R E M => gl (as ++ cs) R E M) (ds ++ [.clo F ws cs]) R (fun x M' => E x ρ M') M1) E M
theorem v_callH {g : GH} {gl : G} {t : DTL} {ρ : Sl} {R : PD} {E : XP} {M : MS} : dCallH g gl t ρ R E M = t ρ (fun ds cs M1 => ∀ F ws, g F ws cs (fun as R E M => gl (as ++ cs) R E M) (ds ++ [.clo F ws cs]) R (fun x M' => E x ρ M') M1) E M := (rfl)
theorem v_lamE {js : List Nat} {ρ : Sl} {R : List D → List D → MS → Prop} {E : XP} {M : MS} : dLamE js ρ R E M = ∃ cs, capD ρ js = some cs ∧ R [] cs M := (rfl)
theorem v_consL {te : DTE} {t : DTL} {ρ : Sl} {R : List D → List D → MS → Prop} {E : XP} {M : MS} : dConsL te t ρ R E M = te ρ (fun x M1 => t ρ (fun xs cs M2 => R (x :: xs) cs M2) E M1) E M := (rfl)
section
variable {X : Cx} {W : WX} {e l : Expr} {es : List Expr} {t : DTA} {tl : DTL} {g : GH} {gl : G} {x a : Str} {ps lps fr : List Str} {j k : Nat} {js : List Nat} {p pos : Pos}
/-- the evidence at the place where the function is made -/
theorem ev_of {pins : List (Addr × Obj)} {σ : St} {H : Hp} {s : Shared} {F : LFn} {ws : List V} {cs : List D} (I : Inv X pins σ H s) (L : ∀ b, BE X.base b → ∀ F, LmOf X l F → LOk X.prog X.w X.K X.mg b j F lps fr gl) (lm : LmOf X l F)
    (hfr : ∀ F, LmOf X l F → (∀ y ∈ F.scope.names, y.2 = .free → X.env.scope.names.lookup y.1 = some .cell ∨ X.env.scope.names.lookup y.1 = some .free) ∧ (∀ y ∈ fr, (y, NameKind.free) ∈ F.scope.names) ∧ ∀ y ∈ F.scope.names, y.2 = .free → X.fn y.1 = true)
    (hjs : js.map (fun j => X.N[j]?) = fr.map some) (hw : ws.map some = js.map (NdefX.slotAt σ)) (hst : X.stack = X.env :: X.outer) (hff : X.env.frame = some X.env.locals) :
    Env0 X.prog X.w X.K X.mg (baseX X.base s.heap F.cl) X.A X.stack s H ∧ BE X.base (baseX X.base s.heap F.cl) ∧ Ev X.prog X.w X.K X.mg (baseX X.base s.heap F.cl) j F ws cs (fun as R E M => gl (as ++ cs) R E M) := by
  obtain ⟨q1, q2, q3⟩ := hfr F lm
  obtain ⟨_, _, hcl⟩ := id lm
  have cp : Caps X F.cl fr js := by rw [hcl]; exact Caps.made I.ok q1 q2 hjs
  have C := cells_of I cp
  rw [← hw] at C
  have e0 := I.env0
  have be := be_baseX (cl := F.cl) e0
  refine ⟨env0_more e0 fun y c e => ⟨(C.all y c e).1, fun hc => ?_⟩, be, lps, fr, gl, L _ be F lm, cellsB_of C, fun _ _ _ _ h => h⟩
  have e2 := cp.sub y c e
  rw [hst] at hc
  rw [frs, List.filterMap_cons, hff] at hc
  rcases List.mem_cons.mp hc with z | z
  · exact I.cne y c e2 z
  · obtain ⟨_, o, ho, _⟩ := I.ok.funs.mem z
    have hy : (y, NameKind.free) ∈ F.scope.names := by
      rw [hcl] at e
      rcases cloFrom_mem (PySem.mem_of_lookup e) with hm | ⟨h1, _⟩
      · cases hm
      · exact h1
    have := I.ok.cab y c (q3 _ hy rfl) e2
    exact Nat.lt_irrefl _ (Nat.lt_of_lt_of_le (Heap.lt_size ho) this)
theorem de_callH (dd : ∀ b, BE X.base b → DfH X.prog X.w X.K X.mg b x ps j k g) (hr : Room k X.A) (hG : X.A.guards = some []) (tk : Takes X W) (L : ∀ b, BE X.base b → ∀ F, LmOf X l F → LOk X.prog X.w X.K X.mg b j F lps fr gl)
    (hfr : ∀ F, LmOf X l F → (∀ y ∈ F.scope.names, y.2 = .free → X.env.scope.names.lookup y.1 = some .cell ∨ X.env.scope.names.lookup y.1 = some .free) ∧ (∀ y ∈ fr, (y, NameKind.free) ∈ F.scope.names) ∧ ∀ y ∈ F.scope.names, y.2 = .free → X.fn y.1 = true)
    (hjs : js.map (fun j => X.N[j]?) = fr.map some) (hst : X.stack = X.env :: X.outer) (hff : X.env.frame = some X.env.locals)
    (ha : DAL X W l js (e :: es) tl) (hg : Gl X x := by rfl)
    (hdb : (x == ("__debug__" : Str)) = false := by decide) (he : starEach (e :: es) X.env = (false, eval e X.env) :: starEach es X.env := by rfl) (hpl : (backTo pos (starEach es X.env)).any (·.1) = false := by rfl) :
    DE X W (.Call (.Name x p) (e :: es) [] pos) (dCallH g gl tl) := by
  obtain ⟨f, fd0, hm, hk, _, _⟩ := (dd X.base .refl).ex
  refine ⟨fun pins s σ H Q I ⟨z, ρ, M, R, E, hs, hm2, h, hc, hE⟩ => ?_⟩
  refine wpAny_Call_Name_kw (ld_glob I hg hm ?_ hdb)
  refine PySem.W.callWith_K (h₀ := X.base) I.ok.mod.kin hk (thn (ha.run pos pins s σ H (fun vs H1 => ∃ F0 ws cs, LmOf X l F0 ∧ ws.map some = js.map (NdefX.slotAt σ) ∧ spD X.K (g F0 ws cs fun as R E M => gl (as ++ cs) R E M) vs H1 Q fun cls d H' => W cls d σ H') I
    ⟨z, ρ, M, _, E, hs, hm2, h, fun ds cs M1 vs ws F0 f0 H1 h1 m1 r1 rf lm hw e1 => ⟨F0, ws, cs, lm, hw, z, ds ++ [.clo F0 ws cs], M1, R, _, r1.append (.cons rf .nil), m1, h1 F0 ws, hc.ext e1, fun x M' cls d H' a b c f => hE x ρ M' cls d σ H' a b (hs.ext (e1.trans f)) c (e1.trans f)⟩, hE⟩) fun us s1 ⟨vs, H1, I1, r, F0, ws, cs, lm, hw, q⟩ => ⟨I1.kIn, ?_⟩) he hpl
  obtain ⟨ee, be, ev⟩ := ev_of (cs := cs) I1 L lm hfr hjs hw hst hff
  obtain ⟨f', fd, hm', _, hb, F⟩ := (dd _ be).ex
  have : f' = f := by rw [hm] at hm'; cases hm'; rfl
  subst this
  have hl : us.length = ps.length := by
    obtain ⟨z, ds, M1, R1, RE, ra, _, gg, _⟩ := q
    rw [← r.length, ra.length]
    exact F.len _ _ _ _ _ _ _ _ gg
  have bb := hb s1 us I1.kIn (by rw [List.append_nil]; exact hl)
  rw [List.append_nil] at bb
  refine wpAny_call (codeAny_mono (F.run F0 ws cs _ X.A X.stack s1 H1 ⟨us, []⟩ us vs Q _ hr hG ee ev bb r q) fun res s' hq => ?_)
  cases res with
  | error e' => exact passAt tk σ pins H1 s1 e' s' I1 hq
  | ok fl =>
    cases fl with
    | ret u => exact I1.after hq
    | next => exact False.elim hq
    | brk => exact False.elim hq
    | cont => exact False.elim hq
/-- a(..), a the function that was handed on -/
def dCallC (F : LFn) (ws : List V) (cs : List D) (φ : G) (tv : DTE) (t : DTA) : DTE := fun ρ R E M => tv ρ (fun d M1 => d = .clo F ws cs ∧ t ρ (fun ds M2 => φ ds R (fun x M' => E x ρ M') M2) E M1) E M
theorem v_callC {F : LFn} {ws : List V} {cs : List D} {φ : G} {tv : DTE} {t : DTA} {ρ : Sl} {R : PD} {E : XP} {M : MS} : dCallC F ws cs φ tv t ρ R E M = tv ρ (fun d M1 => d = .clo F ws cs ∧ t ρ (fun ds M2 => φ ds R (fun x M' => E x ρ M') M2) E M1) E M := (rfl)
theorem callC_end {F : LFn} {ws : List V} {cs : List D} {φ : G} {f : Addr} {pins : List (Addr × Obj)} {σ : St} {ρ : Sl} {H2 : Hp} {s2 : Shared} {Q : VK} {us : List Value} {vs : List V} {z : Hd} {M2 : MS} {ds : List D} {R : PD} {E : XP}
    (ev : Ev X.prog X.w X.K X.mg X.base j F ws cs φ) (hr : Room j X.A) (hG : X.A.guards = some []) (tk : Takes X W) (I2 : Inv X pins σ H2 s2) (r : Vals vs us) (m2 : RelM ⟨X.K, z⟩ H2 M2) (hs : RelS ⟨X.K, z⟩ H2 M2 σ ρ) (ra : RelA ⟨X.K, z⟩ H2 M2 vs ds)
    (rf : Rel ⟨X.K, z⟩ H2 M2 (.ref f) (.clo F ws cs)) (q : φ ds R (fun x M' => E x ρ M') M2) (hc : Cont ⟨X.K, z⟩ H2 M2 R Q) (hE : XOk ⟨X.K, z⟩ H2 M2 W E) : wpAny (model X.prog X.w) X.A (call (.ref f) us) (EP X pins σ Q) X.xe s2 := by
  obtain ⟨lps, fr, gl, L, C, hφ⟩ := ev.ex
  cases rf with
  | clo f1 f2 rc =>
    have C2 := C.at' I2
    have sp : spD X.K gl (vs ++ ws) H2 Q fun cls d H' => W cls d σ H' := ⟨z, ds ++ cs, M2, R, _, ra.append rc, m2, hφ _ _ _ _ q, hc, fun x M' cls d H' a b c f => hE x ρ M' cls d σ H' a b (hs.ext f) c f⟩
    refine wpAny_call (codeAny_mono (L.run f X.A X.stack s2 H2 us vs ws Q _ hr hG I2.env0 f1.2 f2.2 C2 r sp) fun res s' hq => ?_)
    cases res with
    | error e' => exact passAt tk σ pins H2 s2 e' s' I2 hq
    | ok fl =>
      cases fl with
      | ret u => exact I2.after hq
      | next => exact False.elim hq
      | brk => exact False.elim hq
      | cont => exact False.elim hq
theorem fnL_fnAt {pins : List (Addr × Obj)} {σ : St} {H : Hp} {s : Shared} {f : Addr} {F : LFn} (I : Inv X pins σ H s) (e : H f = some (FnL f F)) : PySem.W.FnAt f s.heap := by
  obtain ⟨pm, ctv, ho⟩ := fnL_at I.hok e
  exact ⟨_, _, _, _, ho⟩
theorem de_callC {F : LFn} {ws : List V} {cs : List D} {φ : G} {tv : DTE} (ev : Ev X.prog X.w X.K X.mg X.base j F ws cs φ) (hr : Room j X.A) (hG : X.A.guards = some []) (tk : Takes X W) (hv : DE X W (.Name a p) tv) (ha : DA X W (e :: es) t)
    (he : starEach (e :: es) X.env = (false, eval e X.env) :: starEach es X.env := by rfl) (hpl : (backTo pos (starEach es X.env)).any (·.1) = false := by rfl) :
    DE X W (.Call (.Name a p) (e :: es) [] pos) (dCallC F ws cs φ tv t) := by
  refine ⟨fun pins s σ H Q I ⟨z, ρ, M, R, E, hs, hm2, h, hc, hE⟩ => ?_⟩
  refine wpAny_Call_Name_kw (thn (hv.run pins s σ H (fun v H1 => ∃ f M1, v = .ref f ∧ RelM ⟨X.K, z⟩ H1 M1 ∧ Rel ⟨X.K, z⟩ H1 M1 (.ref f) (.clo F ws cs) ∧ Ext ⟨X.K, z⟩ H M H1 M1 ∧ t ρ (fun ds M2 => φ ds R (fun x M' => E x ρ M') M2) E M1) I
    ⟨z, ρ, M, _, E, hs, hm2, h, fun d M1 v H1 h1 m1 r1 e1 => by
      obtain ⟨rfl, h2⟩ := h1
      cases r1 with
      | clo q1 q2 q3 => exact ⟨_, M1, rfl, m1, .clo q1 q2 q3, e1, h2⟩, hE⟩) fun u s1 ⟨v, H1, I1, ru, f, M1, ev1, m1, rf, e1, h1⟩ => ?_)
  subst ev1
  obtain rfl : u = Value.ref f := ru
  have hf1 : PySem.W.FnAt f s1.heap := by cases rf with | clo q1 _ _ => exact fnL_fnAt I1 q1.2
  refine PySem.W.callWith_F (first := []) hf1 (thn (ha.run pos pins s1 σ H1 (fun vs H2 => ∃ ds M2, RelM ⟨X.K, z⟩ H2 M2 ∧ RelS ⟨X.K, z⟩ H2 M2 σ ρ ∧ RelA ⟨X.K, z⟩ H2 M2 vs ds ∧ Rel ⟨X.K, z⟩ H2 M2 (.ref f) (.clo F ws cs) ∧ φ ds R (fun x M' => E x ρ M') M2 ∧ Cont ⟨X.K, z⟩ H2 M2 R Q ∧ XOk ⟨X.K, z⟩ H2 M2 W E) I1
    ⟨z, ρ, M1, _, E, hs.ext e1, m1, h1, fun ds M2 vs H2 h2 m2 r2 e2 => ⟨ds, M2, m2, hs.ext (e1.trans e2), r2, e2 _ _ rf, h2, hc.ext (e1.trans e2), hE.ext (e1.trans e2)⟩, hE.ext e1⟩) fun us s2 ⟨vs, H2, I2, r, ds, M2, m2, hs2, ra, rf2, q, hc2, hE2⟩ => ⟨by cases rf2 with | clo q1 _ _ => exact fnL_fnAt I2 q1.2, ?_⟩) he hpl
  exact callC_end ev hr hG tk I2 r m2 hs2 ra rf2 q hc2 hE2
theorem de_callC0 {F : LFn} {ws : List V} {cs : List D} {φ : G} {tv : DTE} (ev : Ev X.prog X.w X.K X.mg X.base j F ws cs φ) (hr : Room j X.A) (hG : X.A.guards = some []) (tk : Takes X W) (hv : DE X W (.Name a p) tv) :
    DE X W (.Call (.Name a p) [] [] pos) (dCallC F ws cs φ tv dNil) := by
  refine ⟨fun pins s σ H Q I ⟨z, ρ, M, R, E, hs, hm2, h, hc, hE⟩ => ?_⟩
  refine wpAny_Call_Name_kw (thn (hv.run pins s σ H (fun v H1 => ∃ f M1, v = .ref f ∧ RelM ⟨X.K, z⟩ H1 M1 ∧ Rel ⟨X.K, z⟩ H1 M1 (.ref f) (.clo F ws cs) ∧ Ext ⟨X.K, z⟩ H M H1 M1 ∧ φ [] R (fun x M' => E x ρ M') M1) I
    ⟨z, ρ, M, _, E, hs, hm2, h, fun d M1 v H1 h1 m1 r1 e1 => by
      obtain ⟨rfl, h2⟩ := h1
      cases r1 with
      | clo q1 q2 q3 => exact ⟨_, M1, rfl, m1, .clo q1 q2 q3, e1, h2⟩, hE⟩) fun u s1 ⟨v, H1, I1, ru, f, M1, ev1, m1, rf, e1, h1⟩ => ?_)
  subst ev1
  obtain rfl : u = Value.ref f := ru
  have hf1 : PySem.W.FnAt f s1.heap := by cases rf with | clo q1 _ _ => exact fnL_fnAt I1 q1.2
  refine PySem.W.callWith_F0 (first := []) hf1 ?_
  exact callC_end ev hr hG tk I1 .nil m1 (hs.ext e1) .nil rf h1 (hc.ext e1) (hE.ext e1)
end
/-! ### defs in which functions are made -/
abbrev lamQ (x : Str) : Str := (x ++ (".<locals>." : Str)) ++ ("<lambda>" : Str)
/-- where the code objects of a def's functions are kept -/
structure Mk (mg : Str → Option Value) (x : Str) (base : Heap) (c : Addr) : Prop where
  ex : ∃ P, TabB base mg c P ∧ (P, fun _ _ => lamQ x) ∈ Tbs.T ∧ ∀ p ∈ Tbs.T, p.1 = P → p.2 = fun _ _ => lamQ x
theorem Mk.be {mg : Str → Option Value} {x : Str} {b b' : Heap} {c : Addr} (m : Mk mg x b c) (h : BE b b') : Mk mg x b' c := let ⟨P, h1, h2, h3⟩ := m.ex; ⟨P, TabB.be h1 h, h2, h3⟩
theorem lamAt_of {X : Cx} {x : Str} {c : Addr} {params : Arguments} {body : Expr} {scope : Scope} {pos : Pos} {fr : List Str} (m : Mk X.mg x X.base c) (hcode : X.env.code = .ref c) (hq : X.env.qual = x ++ (".<locals>." : Str)) (hdef : defaultsOf params X.env = ([], [])) (hB : ndefB X.env.scope scope fr = true) :
    LamAt X (.Lambda params body scope pos) :=
  let ⟨P, h1, h2, h3⟩ := m.ex
  ⟨_, _, _, _, rfl, hdef, ndef_free hB, c, P, _, h1, hcode, h2, by rw [hq], h3⟩
theorem hfr_of {X : Cx} {params : Arguments} {body : Expr} {scope : Scope} {pos : Pos} {fr : List Str} (hB : ndefB X.env.scope scope fr = true) (hfn : ∀ y, X.fn y = true) :
    ∀ F, LmOf X (.Lambda params body scope pos) F → (∀ y ∈ F.scope.names, y.2 = .free → X.env.scope.names.lookup y.1 = some .cell ∨ X.env.scope.names.lookup y.1 = some .free) ∧ (∀ y ∈ fr, (y, NameKind.free) ∈ F.scope.names) ∧ ∀ y ∈ F.scope.names, y.2 = .free → X.fn y.1 = true := by
  rintro F ⟨_, e, _⟩
  obtain ⟨q, p, b, sc, cl, c⟩ := F
  cases e
  exact ⟨ndef_free hB, ndef_fr hB, fun y _ _ => hfn y.1⟩
section
variable {P : Program} {w : World} {K : PySem.W.Frag} {mg : Str → Option Value} {base : Heap}
theorem FnD.ofC {c : Addr} {x qual : Str} {st : Stmt} {f : Addr} {fd : FuncData} {N ps : List Str} {k : Nat} {g : G} {tb : DTS} (F : L2.Fun K x qual st f fd) (S : FnScope N ps (defScope st)) (len : ∀ ds R E M, g ds R E M → ds.length = ps.length)
    (hcc : fd.code = .ref c)
    (hb : ∀ (A : Around) (outer : List Env) (s : Shared) (H : Hp) (E : XK), Room k (A.deeper (envOfC qual (defScope st) s.heap.objs.size f (.ref c))) → (A.deeper (envOfC qual (defScope st) s.heap.objs.size f (.ref c))).guards = some [] →
      DSs (cxOf (L2.CX P w) P w K mg base N qual (defScope st) f (.ref c) A outer s H E) (WB E) (defBody st) tb)
    (hg : ∀ ds R RE M, g ds R RE M → tb (ends R RE) (startD N ds) M) : FnD P w K mg base (k + 1) f fd ps g := by
  obtain ⟨oc, od, kV, doc, pm, an, cdv, ct, osl, rfl, lk, hcd⟩ := F.ex
  obtain rfl : cdv = .ref c := hcc
  refine ⟨len, fun A outer s H args us vs Q E hr hG e0 hbd r hsp => ?_⟩
  obtain ⟨z, ds, M, R, RE, ra, rm, hgg, hcont, hex⟩ := hsp
  have hl : vs.length = ps.length := ra.length.trans (len _ _ _ _ hgg)
  have nl : ds.length ≤ N.length := by
    have z := congrArg List.length S.pre
    rw [List.length_take] at z
    have z2 := len _ _ _ _ hgg
    omega
  have kx : K.In s.heap := e0.mod.kin.keeps fun b o e => (e0.bs b o e).1
  have nolim : s.heap.NoLimit := e0.mod.nolimit.keeps fun b o e => (e0.bs b o e).1
  have kinds : ∀ y ∈ ps.zip us, (defScope st).names.lookup y.1 = some .local ∨ ((defScope st).names.lookup y.1 = some .cell ∧ ((cellsFrom (s.heap.objs.size + 1) (defScope st).names []).lookup y.1).isSome = true) := by
    rintro ⟨n, v⟩ hy
    rcases S.par n (List.of_mem_zip hy).1 with q | q
    · exact .inl q
    · exact .inr ⟨q, PySem.W.cellsFrom_some _ _ _ (.inl q)⟩
  refine codeAny_call_function hr.depth (kx _ _ lk) rfl S.co S.gen rfl (PySem.W.codeRec_of kx hcd) (hbd _ _ _ _ ?_)
  refine wpAny_newFunctionEnv_cells S.kind kinds fun env he s1 xc => ?_
  subst he
  refine ⟨nolim.keeps xc.toInCall.keep, codeAny_func ?_⟩
  have T := hb A outer s H E (hr.deeper _) hG
  have I : Inv (cxOf (L2.CX P w) P w K mg base N qual (defScope st) f (.ref c) A outer s H E) [] (L2.start N vs) H s1 := inv_start S hr.hd e0 hl r xc
  have reading : liftS K (WB E) tb { nx := fun _ H' => Q .non H', rt := Q } (L2.start N vs) H := by
    refine ⟨z, startD N ds, M, ends R RE, relS_start ra nl, rm, hg ds R RE M hgg, ?_, ?_, ?_, ?_, ?_⟩
    · rintro ρ' M' σ' H' ⟨d', M2, wk, q⟩ m s e
      exact hcont d' M2 .non H' q (m.le wk.1) (wk.2 _ H' _ m .non) (e.trans (Ext.le wk.1))
    · rintro d M' v H' ⟨d', M2, wk, q⟩ m r e
      exact hcont d' M2 v H' q (m.le wk.1) (wk.2 _ H' _ m r) (e.trans (Ext.le wk.1))
    · intro _ _ _ _ q
      exact q.elim
    · intro _ _ _ _ q
      exact q.elim
    · rintro x ρ' M' cls d σ' H' ⟨M2, l, q⟩ m s rx e
      exact hex x M2 cls d H' q (m.le l) (relX_le l rx) (e.trans (Ext.le l))
  refine wpAny_mono (T.run [] s1 (L2.start N vs) H _ I reading) (fun fl s' hs => ?_) fun e s' hs => hs
  have fin : ∀ {σ' : St} {H' : Hp} {v : V} {u : Value}, Inv (cxOf (L2.CX P w) P w K mg base N qual (defScope st) f (.ref c) A outer s H E) [] σ' H' s' → RelV v u → Q v H' → CE outer P w H s Q u s' :=
    fun {σ' H' v u} J rv q => ⟨v, H', J.os, J.bare, J.base, J.hok, rv, q⟩
  cases fl with
  | ret u =>
    obtain ⟨v, σ', H', J, rv, q⟩ := hs
    exact fin J rv q
  | next =>
    obtain ⟨σ', H', J, q⟩ := hs
    exact fin (v := .non) (u := .none) J rfl q
  | brk => exact (let ⟨_, _, _, q⟩ := hs; q.elim)
  | cont => exact (let ⟨_, _, _, q⟩ := hs; q.elim)
/-- a def of the text whose code object is known -/
structure TxC (K : PySem.W.Frag) (mg : Str → Option Value) (x : Str) (st : Stmt) (c : Addr) : Prop where
  ex : ∃ f fd, mg x = some (.ref f) ∧ L2.Fun K x x st f fd ∧ fd.code = .ref c
theorem Df.ofC {c : Addr} {x : Str} {st : Stmt} {N ps : List Str} {k : Nat} {g : G} {tb : DTS} (T : TxC K mg x st c) (S : FnScope N ps (defScope st))
    (bd : ∀ (kV doc pm : Value) (an : Option Addr) (cdv ct : Value) (us : List Value), us.length = ps.length → bindArgs (PySem.W.fnOf x x (defArgs st) (defBody st) (defScope st) .none kV doc pm an cdv ct) ⟨us, []⟩ = pure (ps.zip us))
    (len : ∀ ds R E M, g ds R E M → ds.length = ps.length)
    (hb : ∀ (f : Addr) (A : Around) (outer : List Env) (s : Shared) (H : Hp) (E : XK), Room k (A.deeper (envOfC x (defScope st) s.heap.objs.size f (.ref c))) → (A.deeper (envOfC x (defScope st) s.heap.objs.size f (.ref c))).guards = some [] →
      DSs (cxOf (L2.CX P w) P w K mg base N x (defScope st) f (.ref c) A outer s H E) (WB E) (defBody st) tb)
    (hg : ∀ ds R RE M, g ds R RE M → tb (ends R RE) (startD N ds) M) : Df P w K mg base x ps (k + 1) g := by
  obtain ⟨f, fd, h1, F, hcc⟩ := T.ex
  exact ⟨f, fd, h1, F.kp, F.binds bd, FnD.ofC F S len hcc (hb f) hg⟩
theorem DfH.mono {x : Str} {ps : List Str} {j k k' : Nat} {g : GH} (D : DfH P w K mg base x ps j k g) (h : k ≤ k') : DfH P w K mg base x ps j k' g := by
  obtain ⟨f, fd, h1, h2, h3, F⟩ := D.ex
  exact ⟨f, fd, h1, h2, h3, F.len, fun F0 ws cs φ A outer s H args us vs Q E hr => F.run F0 ws cs φ A outer s H args us vs Q E (hr.mono h)⟩
end
/-- a proof that a contract over a handed function is kept -/
def HgH (g : GH) (tb : LFn → List V → List D → G → DTS) (N : List Str) : Prop := ∀ F ws cs φ ds R RE M, g F ws cs φ ds R RE M → tb F ws cs φ (ends R RE) (startD N ds) M
/-- .. over what is captured -/
def HgL (g : G) (te : DTE) (N : List Str) : Prop := ∀ ds R RE M, g ds R RE M → te (startD N ds) (Rw R) (fun x _ M' => ∃ M2, Le M2 M' ∧ RE x M2) M
end L2.DL
/-! DLzn: the law's end where functions are made (tables of code objects) -/
namespace L2.DL
open PySem PySem.Spec PyProof.Rows LamX
variable [Tbs]
theorem law_endT {P : Program} {w : World} {K : PySem.W.Frag} {mg mb : Str → Option Value} {k : Nat} {fa a : Addr} {cs : List (Addr × Addr)} {fd : FuncData} {x : Str} {g : G} {s₁ : Shared} {vs : List Value} {ns : List Int}
    (KX : K.In s₁.heap) (hns : s₁.heap.Ns mainGlobals mg) (hb : s₁.heap.Ns builtinsNs mb) (hbb : ∀ x : Str, x ≠ "__name__" → mb x = bootBuiltins x) (hlim : s₁.heap.NoLimit) (hg : s₁.gens = #[])
    (hT : ∀ p ∈ cs, s₁.heap.get? p.2 = some { cls := .none, data := .fields #[] }) (nT : ∀ p ∈ cs, K.lookup p.2 = none) (C : ∀ p ∈ cs, PySem.W.CodeHd s₁.heap p.1 p.2) (hTT : ∀ p ∈ Tbs.T, ∃ q ∈ cs, q.2 = p.1)
    (hbm : ∃ (bm : Addr) (ob : Obj), mg "__builtins__" = some (.ref bm) ∧ bm ≠ builtinsNs ∧ s₁.heap.get? bm = some ob ∧ ob.cls = .type "module" ∧ ob.dict = some builtinsNs ∧ ob.data = .plain)
    (ha : s₁.heap.get? a = some { cls := .type "list", data := .seq vs.toArray }) (hi : IntsAre vs ns) (hl : ns.length ≤ 63) (hr : Room k callerA)
    (F : ∀ base : Heap, K.In base → base.Ns mainGlobals mg → (∀ p ∈ cs, TabB base mg p.1 p.2) → FnD P w K mg base k fa fd [x] g) (hbind : ∀ (s : Shared) (u : Value), BindsTo s fd ⟨[u], []⟩ [(x, u)]) (hgl : g [.scr ns] (fun d _ => d = .bl true) (fun _ _ => False) (fun _ => none)) :
    codeAny (model P w) callerA (.call (.ref fa) ⟨[.ref a], []⟩) (fun r s' => r = .ok (.ret (.bool true)) ∧ OldK s₁.heap s'.heap ∧ s'.os = s₁.os ∧ AllBare s'.gens) s₁ := by
  have hl2 : ns.length ≤ sizeLine := Nat.le_trans hl (by decide)
  have rv := vals_ints hi
  have lenV := hi.length
  have isT : ∀ b : Addr, b ∈ cs.map (·.2) → s₁.heap.get? b = some { cls := .none, data := .fields #[] } := fun b hb => by
    obtain ⟨p, hp, e⟩ := List.mem_map.mp hb
    rw [← e]
    exact hT p hp
  have aT : a ∉ cs.map (·.2) := fun z => by
    have q := isT a z
    rw [ha] at q
    have z' : Data.seq vs.toArray _ = Data.fields #[] := congrArg Obj.data (Option.some.inj q)
    cases z'
  have memT : ∀ p ∈ cs, p.2 ∈ cs.map (·.2) := fun p hp => List.mem_map.mpr ⟨p, hp, rfl⟩
  -- from an abstract heap in which nothing but the script and the tables may be tracked
  have core : ∀ H : Hp, (∀ p ∈ cs, H p.2 = some (.tbl #[])) → (∀ b, H b = none ∨ b ∈ cs.map (·.2) ∨ ∃ o xs, H b = some (.frz o (.lst xs))) → Sc K H a (ns.map V.int) → HOk P w H s₁.heap → (∀ b, H b ≠ none → b = a ∨ b ∈ cs.map (·.2)) → (H a ≠ none → K.lookup a = none) →
      codeAny (model P w) callerA (.call (.ref fa) ⟨[.ref a], []⟩) (fun r s' => r = .ok (.ret (.bool true)) ∧ OldK s₁.heap s'.heap ∧ s'.os = s₁.os ∧ AllBare s'.gens) s₁ := by
    intro H hH hO hS hok hA hK
    have base_of : ∀ {b : Addr} {o : Obj}, s₁.heap.get? b = some o → H b = none → (hidT s₁.heap H).get? b = some o := fun e n => hidT_get e n
    have noD : ∀ {b : Addr} {o : Obj}, s₁.heap.get? b = some o → (∀ vs n, o.data ≠ .seq vs n) → o.data ≠ .fields #[] → H b = none := fun {b o} e h1 h2 => by
      cases q : H b with
      | none => rfl
      | some u =>
        rcases hA b (by rw [q]; simp) with e' | e'
        · rw [e', ha] at e
          cases e
          exact (h1 _ _ rfl).elim
        · rw [isT b e'] at e
          cases e
          exact (h2 rfl).elim
    have noA : ∀ {b : Addr} {o : Obj} {es : Array DictEntry} {ep : Nat}, s₁.heap.get? b = some o → o.data = .dict es ep → H b = none := fun {b o es ep} e d => by
      refine noD e (fun vs n z => ?_) fun z => ?_
      · rw [d] at z
        cases z
      · rw [d] at z
        cases z
    have nsK : ∀ {b : Addr} {m : Str → Option Value}, s₁.heap.Ns b m → (hidT s₁.heap H).Ns b m := fun {b m} ⟨o, es, ep, e, d, r⟩ => ⟨o, es, ep, base_of e (noA e d), d, r⟩
    have hKb : K.In (hidT s₁.heap H) := fun b o e => base_of (KX b o e) (by
      cases q : H b with
      | none => rfl
      | some u =>
        rcases hA b (by rw [q]; simp) with e' | e'
        · rw [e'] at e q
          rw [hK (by rw [q]; simp)] at e
          cases e
        · obtain ⟨p, hp, ep⟩ := List.mem_map.mp e'
          rw [← ep, nT p hp] at e
          cases e)
    have hM : L2.Mod K mg (hidT s₁.heap H) := ⟨hKb, nsK hns, ⟨mb, nsK hb, hbb⟩, let ⟨mc, h1, h2⟩ := hlim; ⟨mc, nsK h1, h2⟩⟩
    have TB : ∀ p ∈ cs, TabB (hidT s₁.heap H) mg p.1 p.2 := fun p hp => by
      have hTp := hT p hp
      refine ⟨?_, ?_, fun z => ?_⟩
      · obtain ⟨o, us, file, tf, flags, tg, inF, text, tt, e1, r1, r2, r3, r4, r5, r6, r7, r8, hne⟩ := C p hp
        refine ⟨o, us, file, tf, flags, tg, inF, text, tt, base_of e1 (noD e1 (fun vs n z => ?_) fun z => ?_), r1, r2, r3, r4, r5, r6, r7, r8, hne⟩
        · rw [r2] at z
          cases z
        · rw [r2] at z
          cases z
          simp at r3
      · obtain ⟨bm, ob, b1, b2, b3, b4, b5, b6⟩ := hbm
        have nG : bm ≠ mainGlobals := fun q => by
          obtain ⟨o, es, ep, e, hd, _⟩ := hns
          rw [q, e] at b3
          cases b3
          rw [hd] at b6
          cases b6
        have nP : bm ≠ p.2 := fun q => by
          rw [q, hTp] at b3
          cases b3
          cases b6
        refine ⟨bm, ob, b1, b2, nG, nP, base_of b3 (noD b3 (fun vs n z => ?_) fun z => ?_), b4, b5, b6⟩
        · rw [b6] at z
          cases z
        · rw [b6] at z
          cases z
      · obtain ⟨o, es, ep, e, hd, _⟩ := hns
        rw [z, hTp] at e
        cases e
        cases hd
    have e0 : Env0 P w K mg (hidT s₁.heap H) callerA [] s₁ H := ⟨rfl, hM, fun b o e => of_hidT e, Nat.le_of_eq (hidT_size _ _), trivial, fun b hb => absurd (show b ∈ ([] : List Addr) from hb) (by simp), hok, .of_eq hg⟩
    have sp : spD K g [.ref a] H (fun v _ => v = .bl true) (fun _ _ _ => False) := by
      refine ⟨fun _ => none, [.scr ns], fun _ => none, _, _, .cons (.scr hS) .nil, ⟨fun b mo e => by simp at e, fun b ws e => by simp at e, fun p hp => ?_⟩, hgl, ?_, ?_⟩
      · obtain ⟨q, hq, eq⟩ := hTT p hp
        exact ⟨#[], ⟨⟨rfl, rfl⟩, by rw [← eq]; exact hH q hq⟩, True.intro, fun pos cv hc => by
          have z : codeAmong pos [] = some cv := hc
          simp [codeAmong] at z⟩
      · rintro d M' v H' rfl m r e
        cases r
        rfl
      · intro x M' cls d H' f
        exact f.elim
    refine codeAny_mono ((F _ hKb (nsK hns) TB).run callerA [] s₁ H ⟨[.ref a], []⟩ [.ref a] [.ref a] _ _ hr rfl e0 (hbind s₁ (.ref a)) (.cons rfl .nil) sp) fun r s' h => ?_
    cases r with
    | error e =>
      obtain ⟨_, _, _, _, _, _, _, _, _, _, _, _, f⟩ := h
      exact f.elim
    | ok fl =>
      cases fl with
      | next => exact False.elim h
      | brk => exact False.elim h
      | cont => exact False.elim h
      | ret u =>
        obtain ⟨v, H', os, bare, un, hok', r', q⟩ := h
        have q' : v = .bl true := q
        subst q'
        obtain rfl : u = Value.bool true := r'
        have key : ∀ b o, b ∉ cs.map (·.2) → s₁.heap.get? b = some o → s'.heap.get? b = some o := fun b o nb e => by
          cases q : H b with
          | none => exact un.keep b o e q (by intro z; exact absurd (show b ∈ ([] : List Addr) from z) (by simp)) (by simp)
          | some u =>
            rcases hO b with z | z | ⟨ob, xs, z⟩
            · rw [q] at z; cases z
            · exact absurd z nb
            · have z2 := un.frzs b ob _ z
              obtain ⟨e1, _⟩ := hok b _ z
              obtain ⟨e2, _⟩ := hok' b _ z2
              rw [e] at e1; cases e1
              exact e2
        have grown : ∀ p ∈ cs, ∃ more : Array Value, s'.heap.get? p.2 = some { cls := .none, data := .fields more } := fun p hp => by
          obtain ⟨more, z⟩ := un.tbls p.2 #[] (hH p hp)
          exact ⟨_, hok' p.2 _ z⟩
        refine ⟨rfl, ⟨fun b o e => ?_, fun b o e => ?_⟩, os, bare⟩
        · by_cases hb : b ∈ cs.map (·.2)
          · obtain ⟨p, hp, ep⟩ := List.mem_map.mp hb
            obtain ⟨more, hm⟩ := grown p hp
            rw [← ep] at e ⊢
            rw [hT p hp] at e
            cases e
            exact .inr (.inl ⟨((C p hp).tab (hT p hp)).isCodeTable, rfl, #[], more, rfl, by rw [Array.empty_append]; exact hm⟩)
          · exact .inl (key b o hb e)
        · by_cases hb : b ∈ cs.map (·.2)
          · obtain ⟨p, hp, ep⟩ := List.mem_map.mp hb
            obtain ⟨more, hm⟩ := grown p hp
            rw [← ep]
            exact ⟨_, hm⟩
          · exact ⟨o, key b o hb e⟩
  cases hk : K.lookup a with
  | some o =>
    have e := KX a o hk
    rw [ha] at e
    cases e
    refine core (fun b => if b ∈ cs.map (·.2) then some (.tbl #[]) else none) (fun p hp => if_pos (memT p hp)) (fun b => ?_) (.inr ⟨_, vs.toArray, _, hk, rfl, rfl, rfl, by rw [List.size_toArray, lenV]; exact hl2, by simpa using rv⟩) (fun b u z => ?_) (fun b z => ?_) fun z => absurd (show (if a ∈ cs.map (·.2) then some (HO.tbl #[]) else none) = none from if_neg aT) z
    · by_cases hb : b ∈ cs.map (·.2)
      · exact .inr (.inl hb)
      · exact .inl (if_neg hb)
    · by_cases hb : b ∈ cs.map (·.2)
      · have z' := (if_pos hb).symm.trans z
        cases z'
        exact isT b hb
      · have z' := (if_neg hb).symm.trans z
        cases z'
    · by_cases hb : b ∈ cs.map (·.2)
      · exact .inr hb
      · exact absurd (if_neg hb) z
  | none =>
    refine core (fun b => if b = a then some (.frz { cls := .type "list", data := .seq vs.toArray } (.lst (ns.map V.int))) else if b ∈ cs.map (·.2) then some (.tbl #[]) else none) (fun p hp => (if_neg (show ¬ p.2 = a from fun z => aT (by rw [← z]; exact memT p hp))).trans (if_pos (memT p hp))) (fun b => ?_)
      (.inl ⟨{ cls := .type "list", data := .seq vs.toArray }, if_pos rfl⟩) (fun b u z => ?_) (fun b z => ?_) fun _ => hk
    · by_cases hb : b = a
      · exact .inr (.inr ⟨_, _, if_pos hb⟩)
      · by_cases hb2 : b ∈ cs.map (·.2)
        · exact .inr (.inl hb2)
        · exact .inl ((if_neg hb).trans (if_neg hb2))
    · by_cases hb : b = a
      · have z' := (if_pos hb).symm.trans z
        cases z'
        rw [hb]
        exact ⟨ha, by rw [List.length_map]; exact hl2, vs, _, rv, ha⟩
      · have z1 := (if_neg hb).symm.trans z
        by_cases hb2 : b ∈ cs.map (·.2)
        · have z' := (if_pos hb2).symm.trans z1
          cases z'
          exact isT b hb2
        · have z' := (if_neg hb2).symm.trans z1
          cases z'
    · by_cases hb : b = a
      · exact .inl hb
      · by_cases hb2 : b ∈ cs.map (·.2)
        · exact .inr hb2
        · exact absurd ((if_neg hb).trans (if_neg hb2)) z
/-- what is known of the law's promise at the head's heap h -/
def LawT (l : PySem.W.OpenLaw) (w : World) (K : PySem.W.Frag) (k : Nat) (x : Str) (mg : Str → Option Value) (fa : Addr) (h : Heap) (g : G) : Prop :=
  ∃ (T : List NdefX.NTab) (fd : FuncData) (cs : List (Addr × Addr)), (∀ p ∈ cs, h.get? p.2 = some { cls := .none, data := .fields #[] }) ∧ (∀ p ∈ cs, K.lookup p.2 = none) ∧ (∀ p ∈ cs, PySem.W.CodeHd h p.1 p.2) ∧ (∀ p ∈ T, ∃ q ∈ cs, q.2 = p.1) ∧ (∀ (s : Shared) (u : Value), BindsTo s fd ⟨[u], []⟩ [(x, u)]) ∧
    ∀ base : Heap, K.In base → base.Ns mainGlobals mg → (∀ p ∈ cs, TabB base mg p.1 p.2) → @FnD ⟨T⟩ l.prog w K mg base k fa fd [x] g
omit [Tbs] in
theorem walkDT {l : PySem.W.OpenLaw} {k : Nat} {q : Program} {loose : List Str} {XP : (Str → Option Value) → Heap → Prop} {YP : World → Heap → Prop} {d : DefRec} {K : Params → PySem.W.Frag} {g : G} {x : Str}
    (hn : l.most = some 63) (hdf : d.params.defaults = []) (hr : Room k callerA) (hY : ∀ (w : World) (h : Heap), YP w h → (K w.params).In h)
    (F : ∀ (w : World) (mg : Str → Option Value) (fa : Addr) (h : Heap), YP w h → (K w.params).In h → h.Ns mainGlobals mg → mg d.name = some (.ref fa) → LawT l w (K w.params) k x mg fa h g) (hgl : gLawB g) :
    PySem.W.WalkO q loose XP YP l.row.toRowW d [] (fun f vs => PySem.call f vs) := by
  refine Att.attach_callB hn hdf fun w s₀ s₁ mg mb fa o pm cd doc a vs ns G Y ho hd hcd hmg hobj hints hlen hbits hg => ?_
  have KX := hY w _ Y
  obtain ⟨T, fd, cs, hT, nT, C, hTT, hb, hF⟩ := F w mg fa _ Y KX G.T.g hmg
  letI : Tbs := ⟨T⟩
  exact law_endT KX G.T.g G.T.b G.T.builtins G.T.nolimit hg hT nT C hTT G.T.bmain hobj hints hlen hr hF hb (hgl ns hlen hbits)
end L2.DL
/-! DLzu: an except clause that names several classes, with as -/
namespace L2.DL
open PySem PySem.Spec PyProof.Rows
variable [Tbs]
/-- what the clause's expression finds out of an exception of that class, in the suite's context -/
structure Tst (X : Cx) (tx : Expr) (cls : Value) (b : Bool) : Prop where
  run : ∀ {a : Addr} {oe : Obj} {ps : List (Addr × Obj)} {σ : St} {H : Hp} {s : Shared} {Q : Bool → Shared → Prop} {E : Value → Shared → Prop}, Inv (X.suite a ((a, oe) :: ps)) [] σ H s → PySem.W.Looks (model X.prog X.w) s.heap (typeOf (.ref a)) cls →
    (∀ h', (∀ q o, s.heap.get? q = some o → h'.get? q = some o) → Q b { s with heap := h' }) → wpAny (model X.prog X.w) (X.A.mark (some (.ref a))) (eval tx X.env) (fun c s1 => wpAny (model X.prog X.w) (X.A.mark (some (.ref a))) (excMatches (.ref a) c) Q E s1) E s
theorem nm_run {X : Cx} {a : Addr} {oe : Obj} {ps : List (Addr × Obj)} {σ : St} {H : Hp} {s : Shared} {x : Str} {p : Pos} {c : Value} {Q E : Value → Shared → Prop} (n : Names X x c) (S : Inv (X.suite a ((a, oe) :: ps)) [] σ H s) (q : Q c s) : wpAny (model X.prog X.w) (X.A.mark (some (.ref a))) (eval (.Name x p) X.env) Q E s := by
  obtain ⟨g, d, m | ⟨m, v, z⟩⟩ := n
  · exact ld_glob (X := X.suite a ((a, oe) :: ps)) S g m q d
  · exact ld_blt (X := X.suite a ((a, oe) :: ps)) S g m v q z d
theorem tst3 {X : Cx} {x1 x2 x3 : Str} {c1 c2 c3 cls : Value} {p1 p2 p3 tp : Pos} {kk : Nat} {b : Bool} (n1 : Names X x1 c1) (n2 : Names X x2 c2) (n3 : Names X x3 c3) (e : PySem.W.exmAny X.K cls [c1, c2, c3] = some b) : Tst X (.Tuple [.Name x1 p1, .Name x2 p2, .Name x3 p3] kk tp) cls b := by
  refine ⟨fun {a oe ps σ H s Q E} S L k => ?_⟩
  refine wpAny_Tuple (wpAny_items_cons (nm_run n1 S (wpAny_items_cons (nm_run n2 S (wpAny_items_cons (nm_run n3 S (wpAny_items_nil ⟨by size_fits, ?_⟩)))))))
  have up : ∀ q o, s.heap.get? q = some o → (s.heap.push { cls := .type "tuple", data := .seq [c1, c2, c3].toArray }).get? q = some o := fun _ _ z => Heap.get?_push_of_some _ z
  exact (PySem.W.exm_tup3 (S.kIn.keeps up) (L.keeps up) (Heap.get?_push_size s.heap rfl) e).here (k _ up)
theorem tst2 {X : Cx} {x1 x2 : Str} {c1 c2 cls : Value} {p1 p2 tp : Pos} {kk : Nat} {b : Bool} (n1 : Names X x1 c1) (n2 : Names X x2 c2) (e : PySem.W.exmAny X.K cls [c1, c2] = some b) : Tst X (.Tuple [.Name x1 p1, .Name x2 p2] kk tp) cls b := by
  refine ⟨fun {a oe ps σ H s Q E} S L k => ?_⟩
  refine wpAny_Tuple (wpAny_items_cons (nm_run n1 S (wpAny_items_cons (nm_run n2 S (wpAny_items_nil ⟨by size_fits, ?_⟩)))))
  have up : ∀ q o, s.heap.get? q = some o → (s.heap.push { cls := .type "tuple", data := .seq [c1, c2].toArray }).get? q = some o := fun _ _ z => Heap.get?_push_of_some _ z
  exact (PySem.W.exm_tup2 (S.kIn.keeps up) (L.keeps up) (Heap.get?_push_size s.heap rfl) e).here (k _ up)
theorem fly_more {B h h' : Heap} {l : List Env} {a : Addr} {Z : Obj → Prop} (f : HandSPX.FlyingZ B l a Z h) (k : ∀ q o, h.get? q = some o → h'.get? q = some o) : HandSPX.FlyingZ B l a Z h' := by
  obtain ⟨k1, k2, k3, o1, vs, T, oT, us, g1, z, d1, v1, nT, ne, g2, d2, w⟩ := f
  exact ⟨fun b o e => k b o (k1 b o e), k2, Heap.FunFrames.of_keeps (fun b o e _ => ⟨o, k b o e, rfl⟩) k3, o1, vs, T, oT, us, k _ _ g1, z, d1, v1, nT, ne, k _ _ g2, d2, w⟩
/-- the ends of the suite's flow, n cleared -/
abbrev clr (D : Ends) (i : Nat) : Ends := { nx := fun σ' H' => D.nx (σ'.set i none) H', rt := D.rt, bk := fun σ' H' => D.bk (σ'.set i none) H', ct := fun σ' H' => D.ct (σ'.set i none) H' }
/-- what is wished of an exception of the body -/
def wishT (X : Cx) (tx : Expr) (i : Nat) (ts : Addr → Value → Option Addr → TS) (Wout : WX) (D : Ends) : WX := fun cls d σ H => ∃ b, Tst X tx cls b ∧ (b = true → ∀ a, H a = none → ts a cls d (clr D i) (σ.set i (some (.ref a))) H) ∧ (b = false → Wout cls d σ H)
section
variable {X : Cx} {n : Str} {tx : Expr} {i : Nat} {body suite : List Stmt} {b₀ : Stmt} {pos pos' : Pos} {tb : WX → TS} {ts : Addr → Value → Option Addr → TS} {Wout : WX}
theorem ps_tryT (hs : X.stack = X.env :: X.outer) (hf : X.env.frame = some X.env.locals) (hN : X.N.Nodup) (hi : X.N[i]? = some n) (hln : X.env.kindOf n = some .local) (tk : Takes X Wout)
    (hb : ∀ (W : WX) (pn : List (Addr × Obj)) (xe : Value → Shared → Prop), Takes (X.tr pn xe) W → PassesOwn (model X.prog X.w) X.A X.env xe → PSs (X.tr pn xe) body (tb W))
    (hsu : ∀ (a : Addr) (oe : Obj) (cls : Value) (d : Option Addr) (pn : List (Addr × Obj)), Zc cls d oe → (∃ vs, oe.data = .fields vs) → PSs (X.suite a ((a, oe) :: pn)) (b₀ :: suite) (ts a cls d)) :
    PS X (.Try body [.ExceptHandler (some tx) (some n) (b₀ :: suite) pos'] [] [] pos) (fun D σ H => tb (wishT X tx i ts Wout D) D σ H) := by
  refine ⟨fun pins s σ H D I h => wpAny_Try_except ?_⟩
  have o := I.ok
  have fr : X.A.frames = some (X.env :: X.outer) := o.frames.trans (congrArg some hs)
  have T0 := (hb (wishT X tx i ts Wout D) (X.pn ++ pins) (fun e s₁ => wpAny (model X.prog X.w) X.A (noteFrame e X.env) (fun _ s₂ => wpAny (model X.prog X.w) X.A (setFlight e none) (fun _ s₃ => wpAny (model X.prog X.w) X.A (handleBy e X.env [.ExceptHandler (some tx) (some n) (b₀ :: suite) pos']) (SP X pins D) X.xe s₃) X.xe s₂) X.xe s₁)
    (fun u s' xx => ?_) PassesOwn.looking).run [] s σ H D (I.toTry _) h
  · refine wpAny_mono T0 (fun f s1 hsp => ?_) fun e s1 he => he
    cases f with
    | ret u => exact (let ⟨v, σ', H', J, r, q⟩ := hsp; ⟨v, σ', H', J.ofTry o, r, q⟩)
    | next => exact (let ⟨σ', H', J, q⟩ := hsp; wpAny_execs_nil ⟨σ', H', J.ofTry o, q⟩)
    | brk => exact (let ⟨σ', H', J, q⟩ := hsp; ⟨σ', H', J.ofTry o, q⟩)
    | cont => exact (let ⟨σ', H', J, q⟩ := hsp; ⟨σ', H', J.ofTry o, q⟩)
  · obtain ⟨a, B, sI, pins', σ', H', cls, d, rfl, J', nb, up, sk, na, os, ag, b, tst, yes, no⟩ := xx
    have J : Inv X pins σ' H' sI := J'.ofTry o
    have sk' : Sky B (X.env :: X.outer) a (Zc cls d) X.env.locals s'.heap := hs ▸ sk
    refine Sky.land Zc.steady fr hf sk' fun h3 f3 u3 => ?_
    -- at any heap further on at which it flies
    have at_ : ∀ {h : Heap}, HandSPX.FlyingZ B (X.env :: X.outer) a (Zc cls d) h → s'.heap.UpToSlots h → ∃ oe, (h.get? a = some oe ∧ Zc cls d oe ∧ (∃ vs, oe.data = .fields vs)) ∧ Inv X pins σ' H' { s' with heap := h } ∧ Inv (X.suite a ((a, oe) :: (X.pn ++ pins))) [] σ' H' { s' with heap := h } := by
      intro h fl u
      obtain ⟨oe, vs, g, z, dd⟩ := fl.there
      have out : a ∉ frs (X.env :: X.outer) := fun m => by
        obtain ⟨_, o2, g2, nf⟩ := fl.2.2.1.mem m
        cases g.symm.trans g2
        exact nf _ dd
      have K := J.landed nb fl.1 (s' := { s' with heap := h }) (up.trans u) os ag
      refine ⟨oe, ⟨g, z, vs, dd⟩, K, K.suite g dd na (fun e => out ?_) fun m => out ?_⟩
      · exact List.mem_filterMap.mpr ⟨X.env, .head _, by rw [hf, e]⟩
      · exact (let ⟨e, m1, m2⟩ := List.mem_filterMap.mp m; List.mem_filterMap.mpr ⟨e, .tail _ m1, m2⟩)
    obtain ⟨oe3, ⟨g3, z3, _⟩, K3, S3⟩ := at_ f3 u3
    refine wpAny_handleBy_cons (codeAny_handlers_test (tst.run S3 (fun A Q E s k q => wpAny_typeOf_ref (k _ _ g3) (by rw [z3.1]; exact q)) fun h4 k4 => ?_)) (by intro q; cases q)
    have f4 := fly_more f3 k4
    have u4 := u3.trans (Heap.UpToSlots.of_keeps k4)
    cases b with
    | false =>
      obtain ⟨oe4, ⟨g4, _, _⟩, K4, _⟩ := at_ f4 u4
      refine wpAny_handleBy_nil ?_
      have thr : wpAny (model X.prog X.w) X.A (setFlight (.ref a) X.env.frame) (fun _ s4 => wpAny (model X.prog X.w) X.A (throw (.ref a) : Sem Flow) (SP X pins D) X.xe s4) X.xe { s' with heap := h4 } := by
        rw [hf]
        exact HandSPX.setFlight_upZ f4 fun h5 y5 u5 => wpAny_throw (tk _ _ ⟨a, B, sI, pins, σ', H', cls, d, rfl, J, nb, (up.trans u4).trans u5, .inr (.inr (hs ▸ y5)), na, os, ag, no rfl⟩)
      obtain ⟨_, _, _, oe5, vs5, T5, oT, us, g5, _, d5, v5, _⟩ := f4
      unfold PySem.passOn
      refine wpAny_bind (wpAny_field g5 d5 v5 ?_)
      rw [if_neg (show ¬ ((Value.ref T5 == Value.none) = true) by simp)]
      first | exact wpAny_bind thr | exact wpAny_bind (wpAny_pure (wpAny_bind thr))
    | true =>
      refine codeAny_handlers_suite_as (HandSPX.lands_againZ f4 fun h5 f5 u5 => ?_)
      obtain ⟨oe5, ⟨_, z5, d5⟩, K5, S5⟩ := at_ f5 (u4.trans u5)
      refine store_ok (X := X.suite a ((a, oe5) :: (X.pn ++ pins))) (v := .ref a) S5 hN hi (.inl hln) rfl (fun s6 S6 => ?_) (.inr hln)
      refine wpAny_mono ((hsu a oe5 cls d (X.pn ++ pins) z5 d5).run [] s6 _ H' _ S6 (yes rfl a na)) (fun f s7 r => ?_) fun _ _ z => False.elim z
      have fin : ∀ {σ7 : St} {H7 : Hp} {Q : Shared → Prop}, Inv (X.suite a ((a, oe5) :: (X.pn ++ pins))) [] σ7 H7 s7 → (∀ s8, Inv X pins (σ7.set i none) H7 s8 → Q s8) → wpAny (model X.prog X.w) X.A (do bindName X.env n .none; unbindBehindTheSuite X.env n pos') (fun _ s8 => Q s8) X.xe s7 :=
        fun {σ7 H7 Q} S7 q => gone_ok (S7.unsuite o) hN hi hln q
      cases f with
      | ret u => exact (let ⟨v, σ7, H7, S7, r7, q⟩ := r; fin S7 fun s8 J8 => ⟨_, _, _, J8, r7, q⟩)
      | next => exact (let ⟨σ7, H7, S7, q⟩ := r; fin S7 fun s8 J8 => ⟨_, _, J8, q⟩)
      | brk => exact (let ⟨σ7, H7, S7, q⟩ := r; fin S7 fun s8 J8 => ⟨_, _, J8, q⟩)
      | cont => exact (let ⟨σ7, H7, S7, q⟩ := r; fin S7 fun s8 J8 => ⟨_, _, J8, q⟩)
end
theorem exm_any2 {K : PySem.W.Frag} {cls c1 c2 : Value} {b1 b2 : Bool} (h1 : PySem.W.exmOne K cls c1 = some b1) (h2 : PySem.W.exmOne K cls c2 = some b2) : PySem.W.exmAny K cls [c1, c2] = some (b1 || (b2 || false)) := by
  simp only [PySem.W.exmAny, h1, h2]
theorem exm_any3 {K : PySem.W.Frag} {cls c1 c2 c3 : Value} {b1 b2 b3 : Bool} (h1 : PySem.W.exmOne K cls c1 = some b1) (h2 : PySem.W.exmOne K cls c2 = some b2) (h3 : PySem.W.exmOne K cls c3 = some b3) : PySem.W.exmAny K cls [c1, c2, c3] = some (b1 || (b2 || (b3 || false))) := by
  simp only [PySem.W.exmAny, h1, h2, h3]
section
variable {X : Cx} {n : Str} {tx : Expr} {i : Nat} {body suite : List Stmt} {b₀ : Stmt} {pos pos' : Pos} {t : DTS} {ts : DTX} {Wout : WX} {Ds : List Str} {catches : Str → Bool}
theorem ds_tryT (i : Nat) (hN : X.N.Nodup) (hs : X.stack = X.env :: X.outer) (hf : X.env.frame = some X.env.locals) (tk : Takes X Wout)
    (hex : ∀ C ∈ Ds, ∀ aC, PySem.W.nsIn X.K mainGlobals C = some (some (.ref aC)) → Tst X tx (.ref aC) (catches C))
    (hb : ∀ (W : WX) (pn : List (Addr × Obj)) (xe : Value → Shared → Prop), Takes (X.tr pn xe) W → PassesOwn (model X.prog X.w) X.A X.env xe → DSs (X.tr pn xe) W body t)
    (hsu : ∀ (C : Str), C ∈ Ds → ∀ (aC a dx : Addr) (oe : Obj) (pn : List (Addr × Obj)), PySem.W.nsIn X.K mainGlobals C = some (some (.ref aC)) → Zc (.ref aC) (some dx) oe → (∃ vs, oe.data = .fields vs) → DSs (X.suite a ((a, oe) :: pn)) W0 (b₀ :: suite) (ts C a dx))
    (hi : X.N[i]? = some n := by rfl) (hln : X.env.kindOf n = some .local := by rfl) :
    DS X Wout (.Try body [.ExceptHandler (some tx) (some n) (b₀ :: suite) pos'] [] [] pos) (dTry i Ds catches t ts) := by
  refine impS (ps_tryT (tb := fun W => liftS X.K W t) (ts := fun a cls d De σ H => ∃ C aC dx, C ∈ Ds ∧ cls = .ref aC ∧ PySem.W.nsIn X.K mainGlobals C = some (some (.ref aC)) ∧ d = some dx ∧ liftS X.K W0 (ts C a dx) De σ H) (Wout := Wout) hs hf hN hi hln tk hb
    fun a oe cls d pn hz hd => ⟨fun pins s σ H De I h => ?_⟩) fun De σ H h => ?_
  · obtain ⟨C, aC, dx, hC, rfl, hns, rfl, h⟩ := h
    exact (hsu C hC aC a dx oe pn hns hz hd).run pins s σ H De I h
  · obtain ⟨z, ρ, M, Dd, hs2, hm, h, L⟩ := h
    refine ⟨z, ρ, M, _, hs2, hm, h, L.nx, L.rt, L.bk, L.ct, ?_⟩
    rintro y ρ' M' cls d σ' H' ⟨hC, q⟩ m' s' rx e'
    obtain ⟨⟨aC, rfl, hns⟩, dx, gs, rfl, hdx, hMdx, rk⟩ := rx
    refine ⟨catches y.C, hex _ hC aC hns, fun hb1 a ha => ?_, fun hb1 => ?_⟩
    · rw [if_pos hb1] at q
      obtain ⟨e2, m2⟩ := ext_xd m' hdx hMdx rk
      have ne : a ≠ dx := fun w => by rw [w, hdx] at ha; cases ha
      have L2 := L.ext (e'.trans e2)
      refine ⟨y.C, aC, dx, hC, rfl, hns, rfl, z, _, _, _, (s'.ext e2).set i (.ref a), m2, q a dx (m'.free ha) hMdx ne, ?_, L2.rt, ?_, ?_, fun _ _ _ _ _ _ _ w => w.elim⟩
      · exact fun ρ2 M2 σ2 H2 w m s ee => L2.nx _ _ _ _ w m (s.clear i) ee
      · exact fun ρ2 M2 σ2 H2 w m s ee => L2.bk _ _ _ _ w m (s.clear i) ee
      · exact fun ρ2 M2 σ2 H2 w m s ee => L2.ct _ _ _ _ w m (s.clear i) ee
    · rw [if_neg (by rw [hb1]; exact Bool.false_ne_true)] at q
      exact L.ex _ _ _ _ _ _ _ q m' s' ⟨⟨aC, rfl, hns⟩, dx, gs, rfl, hdx, hMdx, rk⟩ e'
end
end L2.DL
/-! DLzv: t[:0:-1] of a tuple -/
namespace L2.DL
open PySem PySem.Spec PyProof.Rows
variable [Tbs]
section
variable {prog : Program} {w : World} {A : Around} {E : Value → Shared → Prop} {s : Shared}
def stop0 (n : Nat) : Int := if n = 0 then -1 else 0
theorem adj0 (n : Nat) : Builtin.Slice.sliceAdjust none (some 0) (-1) (n : Int) = ((n : Int) - 1, stop0 n) := by
  unfold Builtin.Slice.sliceAdjust stop0
  by_cases h : n = 0
  · subst h; rfl
  · simp only [show ((-1 : Int) < 0) by decide, if_true, show ¬ ((0 : Int) < 0) by decide, if_false, h]
    congr 1
    omega
theorem places0 (n : Nat) : Builtin.Slice.slicePlaces ((n : Int) - 1) (stop0 n) (-1) = n - 1 := by
  unfold Builtin.Slice.slicePlaces stop0
  have h1 : ¬ ((-1 : Int) > 0) := by omega
  simp only [h1, if_false]
  by_cases h : n = 0
  · subst h; rfl
  · simp only [h, if_false]
    split
    · rw [show (- -1 : Int) = 1 by decide, Int.ediv_one]; omega
    · omega
theorem pick0 (xs : Array Value) : ((List.range (xs.size - 1)).filterMap fun (m : Nat) => xs[(((xs.size : Int) - 1) + (m : Int) * (-1)).toNat]?).toArray = (xs.toList.drop 1).reverse.toArray := by
  have r := rev_pick (xs.toList.drop 1).toArray
  rw [show (xs.toList.drop 1).toArray.size = xs.size - 1 by simp] at r
  rw [show (xs.toList.drop 1).toArray.toList = xs.toList.drop 1 from rfl] at r
  rw [← r]
  congr 1
  have key : ∀ l : List Nat, (∀ m, m ∈ l → m < xs.size - 1) → (l.filterMap fun (m : Nat) => xs[(((xs.size : Int) - 1) + (m : Int) * (-1)).toNat]?) = l.filterMap fun (m : Nat) => (xs.toList.drop 1).toArray[((((xs.size - 1 : Nat) : Int) - 1) + (m : Int) * (-1)).toNat]? := by
    intro l hl
    induction l with
    | nil => rfl
    | cons m l ih =>
      have hm := hl m List.mem_cons_self
      have q : ((((xs.size : Int) - 1) + (m : Int) * (-1)).toNat) = 1 + (xs.size - 2 - m) := by omega
      have q2 : (((((xs.size - 1 : Nat) : Int) - 1) + (m : Int) * (-1)).toNat) = xs.size - 2 - m := by omega
      rw [List.filterMap_cons, List.filterMap_cons, ih fun k hk => hl k (List.mem_cons_of_mem _ hk), q, q2]
      have e : (xs.toList.drop 1).toArray[xs.size - 2 - m]? = xs[1 + (xs.size - 2 - m)]? := by
        rw [List.getElem?_toArray, List.getElem?_drop, Array.getElem?_toList]
      rw [e]
  exact key _ fun m hm => List.mem_range.mp hm
theorem getItem_rev0 {t sl : Addr} {items : Array Value} {vl vu vk : Value} {Q : Value → Shared → Prop} (ht : IsTup s.heap t items) (hs : s.heap.IsSliceOf sl vl vu vk) (pl : IsPart vl none) (pu : IsPart vu (some 0)) (pk : IsPart vk (some (-1)))
    (h : Q (.ref s.heap.objs.size) { s with heap := s.heap.push { cls := .type "tuple", data := .seq (items.toList.drop 1).reverse.toArray } })
    (hsz : items.size ≤ sizeLine) : wpAny (model prog w) A (getItem (.ref t) (.ref sl)) Q E s := by
  have hok : sizeOk (.seq (items.toList.drop 1).reverse.toArray) := by
    show (items.toList.drop 1).reverse.toArray.size ≤ sizeLine
    rw [List.size_toArray, List.length_reverse, List.length_drop, Array.length_toList]
    omega
  obtain ⟨os, hos, hcs, hds⟩ := id hs
  have hTs : s.TypeIs (.ref sl) "slice" := ⟨os, hos, hcs⟩
  have sa : ∀ {Q : Int × Int × Nat → Shared → Prop}, Q ((items.size : Int) - 1, -1, items.size - 1) s → wpAny (model prog w) A.in1 (Builtin.Slice.sliceApplied (.ref sl) (pure (items.size : Int))) Q E s := fun {Q} h => by
    unfold Builtin.Slice.sliceApplied Builtin.Slice.sliceFields
    refine wpAny_bind (wpAny_bind (wpAny_field hos hds (x := vl) rfl (wpAny_bind (wpAny_field hos hds (x := vu) rfl (wpAny_bind (wpAny_field hos hds (x := vk) rfl (wpAny_pure ?_)))))))
    refine wpAny_bind (HT.slicePart_ pk ?_)
    show wpAny _ _ (if ((-1 : Int) == 0) = true then _ else _) _ _ s
    rw [if_neg (by decide)]
    refine wpAny_bind (HT.slicePart_ pl (wpAny_bind (HT.slicePart_ pu (wpAny_bind (wpAny_pure ?_)))))
    show wpAny _ _ (pure ((Builtin.Slice.sliceAdjust none (some 0) (-1) (items.size : Int)).1, (-1 : Int), Builtin.Slice.slicePlaces (Builtin.Slice.sliceAdjust none (some 0) (-1) (items.size : Int)).1 (Builtin.Slice.sliceAdjust none (some 0) (-1) (items.size : Int)).2 (-1))) _ _ s
    rw [adj0, places0]
    exact wpAny_pure h
  unfold getItem
  try with_reducible refine wpAny_holding ?_
  first | refine wpAny_bind (wpAny_pure ?_) | skip
  refine wpAny_bind (wpAny_sequenceKey ht.typeIs (by decide) ?_)
  refine wpAny_bind (wpAny_callSpecial?_slot (name := Str.ofString "__getitem__") ht.typeIs PyProof.Rows.slot_tuple_getitem
    (wpAny_call_entry PyProof.Rows.slot_tuple_getitem ht.typeIs PyProof.Rows.entry_tuple_getitem ?_ (PyProof.Rows.args_tuple_getitem _ _)))
  show wpAny _ _ (Builtin.Tuple.tupleItemsOf (.ref t) >>= _) _ _ s
  refine wpAny_bind (PyProof.Rows.tupleItemsOf_ ht ?_)
  refine wpAny_bind (wpAny_typeOf hTs ?_)
  rw [if_pos (by decide)]
  refine wpAny_bind (sa ?_)
  show wpAny _ _ (if (((items.size : Int) - 1) == 0 && (-1 : Int) == 1 && (items.size - 1) == items.size) = true then _ else _) _ _ s
  rw [if_neg (by intro q; rw [Bool.and_eq_true, Bool.and_eq_true] at q; exact absurd (eq_of_beq q.1.2) (by decide)), pick0]
  first
    | exact wpAny_bind (m := Builtin.Tuple.tupleExact _) (wpAny_newObj_type (wpAny_pure ⟨_, rfl, wpAny_pure h⟩) hok)
    | exact wpAny_bind (m := Builtin.Tuple.tupleExact _) (wpAny_newObj_type (wpAny_bind (wpAny_pure (wpAny_pure ⟨_, rfl, wpAny_pure h⟩))) hok)
    | exact wpAny_bind (wpAny_bind (m := Builtin.Tuple.tupleExact _) (wpAny_newObj_type (wpAny_pure (wpAny_pure ⟨_, rfl, wpAny_pure h⟩)) hok))
    | exact wpAny_bind (wpAny_bind (m := Builtin.Tuple.tupleExact _) (wpAny_newObj_type (wpAny_pure ⟨_, rfl, wpAny_pure h⟩) hok))
end
section
variable {X : Cx}
def tRev0A (K : PySem.W.Frag) (te : TE) : TE := fun σ H Q => te σ H fun x H1 => ∃ a xs, x = .ref a ∧ SqT K H1 a xs ∧ ∀ p, H1 p = none → Q (.ref p) (upd H1 p (.tup (xs.drop 1).reverse))
theorem RelA.drop1 {R : Value → V → Prop} : True := trivial
theorem pe_rev0A {e : Expr} {te : TE} {k k0 : Nat} {p0 p1 p2 p3 pos : Pos} (he : PE X e te) : PE X (.Subscript e (.Slice none (some (.Constant (.int 0) k0 p0)) (some (.UnaryOp .USub (.Constant (.int 1) k p1) p2)) p3) pos) (tRev0A X.K te) := by
  refine ⟨fun pins s σ H Q I h => ?_⟩
  refine Subscript_ (thn (he.run pins s σ H _ I h) fun v s1 ⟨x, H1, I1, r1, a, xs, ex, hx, q⟩ => ?_)
  subst ex
  cases r1
  have hst : PO X (some (.UnaryOp .USub (.Constant (.int 1) k p1) p2)) (tPart (tUn (rU fun i => .int (-i)) (tC (.int 1)))) := po_some (pe_un un_neg pe_int)
  have hsu : PO X (some (.Constant (.int 0) k0 p0)) (tPart (tC (.int 0))) := po_some pe_int
  refine wpAny_Slice (thn (po_none.run pins s1 σ H1 (fun o z2 => o = none ∧ z2 = H1) I1 ⟨rfl, rfl⟩) fun vl s2 ⟨l, H2, I2, pl, el, e2⟩ => ?_)
  subst el e2
  refine thn (hsu.run pins s2 σ H2 (fun o z3 => o = some 0 ∧ z3 = H2) I2 ⟨0, rfl, rfl, rfl⟩) fun vu s3 ⟨u, H3, I3, pu, eu, e3⟩ => ?_
  subst eu e3
  refine thn (hst.run pins s3 σ H3 (fun o z4 => o = some (-1) ∧ z4 = H3) I3 ⟨1, rfl, -1, rfl, rfl, rfl⟩) fun vs s4 ⟨o, H4, I4, ps, eo, e4⟩ => ?_
  subst eo e4
  have I5 : Inv X pins σ H4 { s4 with heap := s4.heap.push { cls := .type "slice", data := .fields #[vl, vu, vs] } } := I4.kept (t' := s4.toks) fun b ob q => Heap.get?_push_of_some _ q
  show wpAny (model X.prog X.w) X.A (subscriptTail e (.Slice none (some (.Constant (.int 0) k0 p0)) (some (.UnaryOp .USub (.Constant (.int 1) k p1) p2)) p3) (.ref a) (.ref s4.heap.objs.size)) (EP X pins σ Q) X.xe { s4 with heap := s4.heap.push { cls := .type "slice", data := .fields #[vl, vu, vs] } }
  obtain ⟨its, r, ht, hz⟩ := I5.tuple hx
  have hlen := r.length
  refine tail_any (ops := [.ref a, .ref s4.heap.objs.size]) ht.typeIs PyProof.Rows.slot_tuple_getitem.lookup ?_ (by with_unfolding_all rfl)
  refine getItem_rev0 ht (Heap.IsSliceOf.new _ vl vu vs) pl pu ps ?_ (by rw [List.size_toArray]; omega)
  refine ⟨.ref _, _, I5.laid (t' := s4.toks) (o := .tup (xs.drop 1).reverse) (fun b ob z => Heap.get?_push_of_some _ z) (Nat.le_refl _) ?_, rfl, q _ (I5.hok.fresh (Nat.le_refl _))⟩
  exact ⟨by rw [List.length_reverse, List.length_drop]; omega, _, (r.drop 1).reverse, IsTup.new _ _⟩
end
/-! as data -/
def rev0D : D → PD → MS → Prop
  | .tup ds, R, M => R (.tup (ds.drop 1).reverse) M
  | _, _, _ => False
def dRev0 (te : DTE) : DTE := fun ρ R E M => te ρ (fun d M1 => rev0D d R M1) E M
theorem RelA.dropOne {K : ZK} {H : Hp} {M : MS} : ∀ {vs : List V} {ds : List D}, RelA K H M vs ds → RelA K H M (vs.drop 1) (ds.drop 1)
  | _, _, .nil => .nil
  | _, _, .cons a b => b
theorem de_rev0 {X : Cx} {W : WX} {e : Expr} {te : DTE} {k k0 : Nat} {p0 p1 p2 p3 pos : Pos} (he : DE X W e te) : DE X W (.Subscript e (.Slice none (some (.Constant (.int 0) k0 p0)) (some (.UnaryOp .USub (.Constant (.int 1) k p1) p2)) p3) pos) (dRev0 te) :=
  imp (pe_rev0A he) fun σ H Q ⟨z, ρ, M, R, E, hs, hm, h, hc, hE⟩ =>
    ⟨z, ρ, M, _, E, hs, hm, h, fun d M1 v H1 h1 m1 r1 e1 => by
      have h1 : rev0D d R M1 := h1
      unfold rev0D at h1
      split at h1
      · cases r1 with
        | tup s ra => exact ⟨_, _, rfl, s, fun p hp => hc _ _ _ _ h1 (relM_new m1 hp) (.tup (SqT.of upd_same) ((ext_new m1 hp).all ra.dropOne.reverse)) (e1.trans (ext_new m1 hp))⟩
      · exact h1.elim, hE⟩
section
variable {ρ : Sl} {R : PD} {E : XP} {M : MS} {te : DTE} {xs : List D}
theorem v_rev0 : dRev0 te ρ R E M = te ρ (fun d M1 => rev0D d R M1) E M := (rfl)
theorem q_rev0 : rev0D (.tup xs) R M = R (.tup (xs.drop 1).reverse) M := (rfl)
end
end L2.DL
/-! DLzw: a def that an except suite calls with the exception that is handled -/
namespace L2.DL
open PySem PySem.Spec PyProof.Rows
variable [Tbs]
def cool (A : Around) : Around := { A with handled := none }
theorem cool_mark {A : Around} {a : Addr} {env : Env} (h : A.handled = some (.ref a)) : ((cool A).deeper env).mark (some (.ref a)) = A.deeper env := by
  cases A
  cases h
  rfl
/-- as FnD, where the exception (a, oe) is handled and nothing is raised -/
structure FnDH (P : Program) (w : World) (F : PySem.W.Frag) (mg : Str → Option Value) (base : Heap) (k : Nat) (f : Addr) (fd : FuncData) (ps : List Str) (g : G) (a : Addr) (oe : Obj) : Prop where
  len : ∀ ds R E M, g ds R E M → ds.length = ps.length
  run : ∀ (A : Around) (outer : List Env) (s : Shared) (H : Hp) (args : Args) (us : List Value) (vs : List V) (Q : VK), L2H.RoomH k A → A.guards = some [] → A.handled = some (.ref a) → L2H.PinOk outer H s (a, oe) → Env0 P w F mg base A outer s H →
    BindsTo s fd args (ps.zip us) → Vals vs us → spD F g vs H Q (fun _ _ _ => False) → codeAny (model P w) A (.call (.ref f) args) (CR (fun _ _ _ _ _ _ => False) outer P w H s Q (fun _ _ _ => False)) s
section
variable {P : Program} {w : World} {K : PySem.W.Frag} {mg : Str → Option Value} {base : Heap} {a : Addr} {oe : Obj}
abbrev cxC (P : Program) (w : World) (K : PySem.W.Frag) (mg : Str → Option Value) (base : Heap) (N : List Str) (qual : Str) (scope : Scope) (f : Addr) (cd : Value) (A : Around) (outer : List Env) (s : Shared) (H : Hp) : Cx :=
  cxOf (fun _ _ _ _ _ _ => False) P w K mg base N qual scope f cd (cool A) outer s H (fun _ _ _ => False)
theorem FnDH.of {x qual : Str} {st : Stmt} {f : Addr} {fd : FuncData} {N ps : List Str} {k : Nat} {g : G} {tb : DTS} (F : L2.Fun K x qual st f fd) (S : FnScope N ps (defScope st)) (len : ∀ ds R E M, g ds R E M → ds.length = ps.length)
    (hb : ∀ (cdv : Value) (A : Around) (outer : List Env) (s : Shared) (H : Hp), Room k ((cool A).deeper (envOfC qual (defScope st) s.heap.objs.size f cdv)) → ((cool A).deeper (envOfC qual (defScope st) s.heap.objs.size f cdv)).guards = some [] →
      DSs ((cxC P w K mg base N qual (defScope st) f cdv A outer s H).suite a [(a, oe)]) W0 (defBody st) tb)
    (hg : ∀ ds R RE M, g ds R RE M → tb (ends R fun _ _ => False) (startD N ds) M) : FnDH P w K mg base (k + 1) f fd ps g a oe := by
  obtain ⟨oc, od, kV, doc, pm, an, cdv, ct, osl, rfl, lk, hcd⟩ := F.ex
  refine ⟨len, fun A outer s H args us vs Q hr hG hh hpin e0 hbd r hsp => ?_⟩
  obtain ⟨z, ds, M, R, RE, ra, rm, hgg, hcont, hex⟩ := hsp
  have hl : vs.length = ps.length := ra.length.trans (len _ _ _ _ hgg)
  have nl : ds.length ≤ N.length := by
    have z := congrArg List.length S.pre
    rw [List.length_take] at z
    have z2 := len _ _ _ _ hgg
    omega
  have kx : K.In s.heap := e0.mod.kin.keeps fun b o e => (e0.bs b o e).1
  have nolim : s.heap.NoLimit := e0.mod.nolimit.keeps fun b o e => (e0.bs b o e).1
  have kinds : ∀ y ∈ ps.zip us, (defScope st).names.lookup y.1 = some .local ∨ ((defScope st).names.lookup y.1 = some .cell ∧ ((cellsFrom (s.heap.objs.size + 1) (defScope st).names []).lookup y.1).isSome = true) := by
    rintro ⟨n, v⟩ hy
    rcases S.par n (List.of_mem_zip hy).1 with q | q
    · exact .inl q
    · exact .inr ⟨q, PySem.W.cellsFrom_some _ _ _ (.inl q)⟩
  refine codeAny_call_function hr.depth (kx _ _ lk) rfl S.co S.gen rfl (PySem.W.codeRec_of kx hcd) (hbd _ _ _ _ ?_)
  refine wpAny_newFunctionEnv_cells S.kind kinds fun env he s1 xc => ?_
  subst he
  refine ⟨nolim.keeps xc.toInCall.keep, codeAny_func ?_⟩
  have hr2 := hr.deeper (envOfC qual (defScope st) s.heap.objs.size f cdv)
  have T := hb cdv A outer s H ⟨rfl, hr2.dp, hr2.un⟩ hG
  have I0 := L2H.inv_startH (CX := fun _ _ _ _ _ _ => False) (qual := qual) (f := f) (cd := cdv) (E := fun _ _ _ => False) S hpin e0 hl r xc
  have eA : ((cxC P w K mg base N qual (defScope st) f cdv A outer s H).suite a [(a, oe)]).A = A.deeper (envOfC qual (defScope st) s.heap.objs.size f cdv) := cool_mark hh
  have I : Inv ((cxC P w K mg base N qual (defScope st) f cdv A outer s H).suite a [(a, oe)]) [] (L2.start N vs) H s1 := by
    have ok := I0.ok
    exact ⟨⟨ok.mod, ok.kind, ok.glob, ok.blt, ok.above, ok.inj, ok.has, ok.cab, (fun z => absurd (show false = true from z) Bool.false_ne_true), (by rw [eA]; exact ok.frames), ok.stk, ok.exf, ok.bs, ok.bsz, ok.noex, ok.exfs, ok.funs, ok.frf⟩,
      I0.os, I0.bare, I0.base, I0.loc, I0.cell, I0.free, I0.freeC, I0.pin, I0.hok, I0.len⟩
  have reading : liftS K W0 tb { nx := fun _ H' => Q .non H', rt := Q } (L2.start N vs) H := by
    refine ⟨z, startD N ds, M, ends R fun _ _ => False, relS_start ra nl, rm, hg ds R RE M hgg, ?_, ?_, ?_, ?_, ?_⟩
    · rintro ρ' M' σ' H' ⟨d', M2, wk, q⟩ m s e
      exact hcont d' M2 .non H' q (m.le wk.1) (wk.2 _ H' _ m .non) (e.trans (Ext.le wk.1))
    · rintro d M' v H' ⟨d', M2, wk, q⟩ m r e
      exact hcont d' M2 v H' q (m.le wk.1) (wk.2 _ H' _ m r) (e.trans (Ext.le wk.1))
    · intro _ _ _ _ q
      exact q.elim
    · intro _ _ _ _ q
      exact q.elim
    · rintro x ρ' M' cls d σ' H' ⟨M2, l, q⟩ m s rx e
      exact q.elim
  have W := T.run [] s1 (L2.start N vs) H _ I reading
  rw [eA] at W
  refine wpAny_mono W (fun fl s' hs => ?_) fun e s' hs => (show False from hs).elim
  have fin : ∀ {σ' : St} {H' : Hp} {v : V} {u : Value}, Inv ((cxC P w K mg base N qual (defScope st) f cdv A outer s H).suite a [(a, oe)]) [] σ' H' s' → RelV v u → Q v H' → CE outer P w H s Q u s' :=
    fun {σ' H' v u} J rv q => ⟨v, H', J.os, J.bare, J.base, J.hok, rv, q⟩
  cases fl with
  | ret u =>
    obtain ⟨v, σ', H', J, rv, q⟩ := hs
    exact fin J rv q
  | next =>
    obtain ⟨σ', H', J, q⟩ := hs
    exact fin (v := .non) (u := .none) J rfl q
  | brk => exact (let ⟨_, _, _, q⟩ := hs; q.elim)
  | cont => exact (let ⟨_, _, _, q⟩ := hs; q.elim)
/-- a def of the text called so -/
structure DfX (P : Program) (w : World) (K : PySem.W.Frag) (mg : Str → Option Value) (base : Heap) (x : Str) (ps : List Str) (k : Nat) (g : G) (a : Addr) (oe : Obj) : Prop where
  ex : ∃ f fd, mg x = some (.ref f) ∧ PySem.W.keepIn K (.ref f) = true ∧ Binds K fd ps [] ∧ FnDH P w K mg base k f fd ps g a oe
/-- what such a def promises: its own reading -/
def gX (tb : DTS) (n : List Str) (a : Addr) : G := fun ds R _ M => ds = [.ref a] ∧ tb (ends R fun _ _ => False) (startD n ds) M
theorem DfX.of {x p : Str} {st : Stmt} {N : List Str} {k : Nat} {tb : DTS} (T : Tx K mg x st) (S : FnScope N [p] (defScope st))
    (bd : ∀ (kV doc pm : Value) (an : Option Addr) (cdv ct : Value) (us : List Value), us.length = [p].length → bindArgs (PySem.W.fnOf x x (defArgs st) (defBody st) (defScope st) .none kV doc pm an cdv ct) ⟨us, []⟩ = pure ([p].zip us))
    (hb : ∀ (f : Addr) (cdv : Value) (A : Around) (outer : List Env) (s : Shared) (H : Hp), Room k ((cool A).deeper (envOfC x (defScope st) s.heap.objs.size f cdv)) → ((cool A).deeper (envOfC x (defScope st) s.heap.objs.size f cdv)).guards = some [] →
      DSs ((cxC P w K mg base N x (defScope st) f cdv A outer s H).suite a [(a, oe)]) W0 (defBody st) tb) : DfX P w K mg base x [p] (k + 1) (gX tb N a) a oe := by
  obtain ⟨f, fd, h1, F⟩ := T.ex
  exact ⟨f, fd, h1, F.kp, F.binds bd, FnDH.of F S (fun ds R E M h => by rw [h.1]; rfl) (hb f) fun ds R RE M h => h.2⟩
end
section
variable {X : Cx} {W : WX} {e : Expr} {es : List Expr} {t : DTA} {g : G} {x : Str} {ps : List Str} {k : Nat} {p pos : Pos} {a : Addr} {oe : Obj} {pn : List (Addr × Obj)}
def dCallX (g : G) (t : DTA) : DTE := fun ρ R E M => t ρ (fun ds M1 => g ds R (fun _ _ => False) M1) E M
theorem v_callX {g : G} {t : DTA} {ρ : Sl} {R : PD} {E : XP} {M : MS} : dCallX g t ρ R E M = t ρ (fun ds M1 => g ds R (fun _ _ => False) M1) E M := (rfl)
theorem v_gX {tb : DTS} {n : List Str} {a : Addr} {R : PD} {E : Ex → MS → Prop} {M : MS} : gX tb n a [.ref a] R E M = tb (ends R fun _ _ => False) (startD n [.ref a]) M := by
  unfold gX
  simp
theorem de_callX (dd : DfX X.prog X.w X.K X.mg X.base x ps k g a oe) (hr : Room k X.A) (hG : X.A.guards = some []) (ha : DA (X.suite a ((a, oe) :: pn)) W (e :: es) t) (hg : Gl X x := by rfl)
    (hdb : (x == ("__debug__" : Str)) = false := by decide) (he : starEach (e :: es) X.env = (false, eval e X.env) :: starEach es X.env := by rfl) (hpl : (backTo pos (starEach es X.env)).any (·.1) = false := by rfl) :
    DE (X.suite a ((a, oe) :: pn)) W (.Call (.Name x p) (e :: es) [] pos) (dCallX g t) := by
  obtain ⟨f, fd, hm, hk, hb, F⟩ := dd.ex
  refine ⟨fun pins s σ H Q I ⟨z, ρ, M, R, E, hs, hm2, h, hc, hE⟩ => ?_⟩
  refine wpAny_Call_Name_kw (ld_glob I hg hm ?_ hdb)
  refine PySem.W.callWith_K (h₀ := X.base) I.ok.mod.kin hk (thn (ha.run pos pins s σ H (fun vs H1 => spD X.K g vs H1 Q fun _ _ _ => False) I
    ⟨z, ρ, M, _, E, hs, hm2, h, fun ds M1 vs H1 h1 m1 r1 e1 => ⟨z, ds, M1, R, _, r1, m1, h1, hc.ext e1, fun x M' cls d H' a b c f => a.elim⟩, hE⟩) fun us s1 ⟨vs, H1, I1, r, q⟩ => ⟨I1.kIn, ?_⟩) he hpl
  have hl : us.length = ps.length := by
    obtain ⟨z, ds, M1, R1, RE, ra, _, gg, _⟩ := q
    rw [← r.length, ra.length]
    exact F.len _ _ _ _ gg
  have bb := hb s1 us I1.kIn (by rw [List.append_nil]; exact hl)
  rw [List.append_nil] at bb
  have P1 := I1.pin (a, oe) (List.mem_append_left _ (.head _))
  have hpin : L2H.PinOk X.stack H1 s1 (a, oe) := ⟨P1.1, P1.2.1, fun hm => (List.mem_cons.mp (I1.stkSub a hm)).elim P1.2.2.1 P1.2.2.2.1, P1.2.2.2.2⟩
  refine wpAny_call (codeAny_mono (F.run (X.suite a ((a, oe) :: pn)).A X.stack s1 H1 ⟨us, []⟩ us vs Q ⟨hr.dp, hr.un⟩ hG rfl hpin I1.env0 bb r q) fun res s' hq => ?_)
  cases res with
  | error e' => exact (show False from hq).elim
  | ok fl =>
    cases fl with
    | ret u => exact I1.after hq
    | next => exact False.elim hq
    | brk => exact False.elim hq
    | cont => exact False.elim hq
end
end L2.DL
/-! DLzx: x in range(n), x not in range(n) -/
namespace L2
open PySem PySem.Spec PyProof.Rows
section
variable {X : Cx}
theorem cr_range1 : CallR X (.type "range") (fun vs H Q => ∃ i, vs = [V.int i] ∧ ∀ p, H p = none → Q (.ref p) (upd H p (.rng 0 i))) := by
  intro pins s σ H vs us Q I r h
  obtain ⟨i, rfl, q⟩ := h
  cases r with
  | cons r rr =>
    cases rr
    obtain ⟨t, rfl⟩ := r
    refine call_range_1 ⟨.ref s.heap.objs.size, upd H s.heap.objs.size (.rng 0 i), I.laid (t' := s.toks + 1 + 1) (fun b o e => Heap.get?_push_of_some _ e) (Nat.le_refl _) ?_, rfl, q _ (I.hok.fresh (Nat.le_refl _))⟩
    exact ⟨s.toks, t, s.toks + 1, Heap.get?_push_size _ rfl⟩
def rInRng (f : Bool → Bool) : R2 := fun x y H Q => ∃ i a lo hi, x = V.int i ∧ y = V.ref a ∧ H a = some (.rng lo hi) ∧ Q (.bl (f (decide (lo ≤ i ∧ i < hi)))) H
theorem op_notin_rng : OpR X (compareOp .NotIn) (rInRng fun k => !k) := by
  intro pins s σ H x y v u Q I rx ry h
  obtain ⟨i, a, lo, hi, rfl, rfl, ha, q⟩ := h
  obtain ⟨k, rfl⟩ := rx
  obtain rfl : u = Value.ref a := ry
  obtain ⟨t1, t2, t3, ho⟩ := I.hok a _ ha
  show wpAny _ _ (do return Value.bool (!(← contains (Value.ref a) (Value.int i k)))) _ _ s
  refine wpAny_bind (wpAny_contains_slot (T := "range") ⟨_, ho, rfl⟩ F.slot_range_contains (call_meets F.slot_range_contains ⟨_, ho, rfl⟩ F.entry_range_contains (F.args_range_contains_2 _ _) (q_contains a lo hi i t1 t2 t3 k)
    ⟨ho, wpAny_truthy_bool (wpAny_pure ⟨.bl _, H, I, rfl, ?_⟩)⟩))
  rw [place1]
  exact q
end
end L2
namespace L2.DL
open PySem PySem.Spec PyProof.Rows
variable [Tbs]
section
variable {X : Cx} {W : WX} {a b : Expr} {ta tb : DTE} {p pos pos2 : Pos}
/-- a in range(b), a not in range(b) -/
def dInRng (f : Bool → Bool) (ta tb : DTE) : DTT := fun ρ R E M => ta ρ (fun x M1 => tb ρ (fun y M2 => ∃ i n, x = .int i ∧ y = .int n ∧ R (f (decide (0 ≤ i ∧ i < n))) M2) E M1) E M
theorem v_inRng {f : Bool → Bool} {ta tb : DTE} {ρ : Sl} {R : Bool → MS → Prop} {E : XP} {M : MS} : dInRng f ta tb ρ R E M = ta ρ (fun x M1 => tb ρ (fun y M2 => ∃ i n, x = .int i ∧ y = .int n ∧ R (f (decide (0 ≤ i ∧ i < n))) M2) E M1) E M := (rfl)
theorem dt_inRng {op : CmpOp} {f : Bool → Bool} (o : OpR X (compareOp op) (rInRng f)) (hm : X.mg "range" = none) (ha : DE X W a ta) (hb : DE X W b tb) (hg : Gl X "range" := by rfl)
    (hs : starEach [b] X.env = (false, eval b X.env) :: starEach [] X.env := by rfl) (hpl : (backTo pos2 (starEach [] X.env)).any (·.1) = false := by rfl)
    (hk : behindInMarks op (.Call (.Name "range" p) [b] [] pos2) = false := by first | exact nomark _ | rfl) :
    DT X W (.Compare a [op] [.Call (.Name "range" p) [b] [] pos2] pos) (dInRng f ta tb) := by
  refine impT (pt_cmpR o ha (pe_callTy (X := X) cr_range1 hg hm boot_range (pa_cons hb pa_nil hs) (he := hs) (hpl := hpl)) hk) fun σ H Q ⟨z, ρ, M, R, E, hs, hm, h, hc, hE⟩ => ?_
  refine ⟨z, ρ, M, _, E, hs, hm, h, fun x M1 vx H1 h1 m1 r1 e1 => ?_, hE⟩
  refine ⟨z, ρ, M1, _, E, hs.ext e1, m1, h1, fun y M2 vy H2 h2 m2 r2 e2 => ?_, hE.ext e1⟩
  obtain ⟨i, n, rfl, rfl, q⟩ := h2
  cases e2 _ _ r1
  cases r2
  cases r1
  refine ⟨n, rfl, fun p hp => ?_⟩
  refine ⟨i, p, 0, n, rfl, rfl, upd_same, ?_⟩
  exact ⟨_, rfl, hc _ _ _ q (relM_new m2 hp) (e1.trans (e2.trans (ext_new m2 hp)))⟩
end
end L2.DL
namespace L2.DL
open PySem PySem.Spec PyProof.Rows LamX NdefX
variable [Tbs]
local macro_rules | `(tactic| walk_at "dd") => `(tactic| simp only [v_seq, v_next, v_never, v_set, v_ret, v_retN, v_ifS, v_expr, v_asg, v_par3, v_asgS2, q_lstT, q_lstL, q_lstNT, v_par, v_sub, v_for, v_forN, v_forC, v_break, v_cont, v_nm, v_tp, v_tpL, v_tpN, v_tpC, v_var, v_sl0, v_slS, v_c, v_nil, v_cons, v_tup, v_lst, v_lstN, v_op, v_un, v_ix, v_tst, v_tru, v_and, v_or, v_not, v_andV, v_orV, v_notV, v_if, v_ifV, q_selI, v_chain, v_noP, v_part, v_sl, v_cb, v_mt, v_call, v_items, v_enum, q_enuT, q_enuL, v_zip, q_and1, v_callN, v_callV, v_pmN, v_pmC, v_gt0, v_gtS, v_apN, v_apC, v_callH, v_lamE, v_consL, v_callC, v_capN, v_capC, v_callX, v_gX, v_inRng, v_rev0, q_rev0, q_zipT, q_zipL, v_rng1, v_rng2, v_lc, v_lcN, v_lcC, v_forL, v_lcL, dm_um, um_dm, v_yes, v_wN, v_wC, v_st0, v_stC, v_stN,
  q_add, q_mulS, q_addT, q_addS, q_addL, q_sub, q_mul, q_fdiv, q_mod, q_pow, q_neg, q_ii, q_eqI, q_eqS, q_eqB, q_is, q_it0, q_it1, q_it2, q_it3, q_ixT, q_ixL, q_ixR, q_setL, q_lenT, q_lenL, q_lenR, q_slT, q_slL, q_slC, q_app, q_ext, q_isL, q_strI, q_strS, v_fmt, q_fmtI, q_fmtS, v_lrng1, v_lrng2, v_chain3, v_raise, v_isX, v_fldX, v_try, v_join, v_jsN, v_jsC, q_strW, v_rng3, q_isLL, q_cntB, q_cntI, v_lz, q_zs, v_step, v_rev, q_revT, q_revL, q_revR, q_addN, q_addNL, q_addR, q_slR, q_isX, q_isB, q_isi_non_int, q_isi_non_bool, q_isi_non_str, q_isi_non_tuple, q_isi_non_list, q_isi_bl_int, q_isi_bl_bool, q_isi_bl_str, q_isi_bl_tuple, q_isi_bl_list, q_isi_int_int, q_isi_int_bool, q_isi_int_str, q_isi_int_tuple, q_isi_int_list, q_isi_str_int, q_isi_str_bool, q_isi_str_str, q_isi_str_tuple, q_isi_str_list, q_isi_tup_int, q_isi_tup_bool, q_isi_tup_str, q_isi_tup_tuple, q_isi_tup_list, q_isi_lst_int, q_isi_lst_bool, q_isi_lst_str, q_isi_lst_tuple, q_isi_lst_list, q_tupL, q_tupT, q_tupR, q_tb, q_tn, q_ti, q_tt, q_tl, q_abs, q_min, q_max, q_intI, q_intB, q_dnx, q_drt, q_dbk, q_dct, q_dex, q_ixN0, q_ixN1, q_ixN2, q_ixN3, exists_and_left, um_same, um_um,
  List.set_cons_zero, List.set_cons_succ, List.length_cons, List.length_nil, isNon, id, Int.lt_irrefl, decide_eq_true_eq, Bool.not_eq_true', decide_eq_false_iff_not, Bool.not_false, Bool.not_true, not_true_eq_false, not_false_eq_true, if_true, if_false, Bool.false_eq_true, ite_true, ite_false, eq_self, true_and, and_true, Option.some.injEq, MO.lst.injEq, exists_eq_left', exists_eq_left, ends])
local macro_rules | `(tactic| walk_at "dn") => `(tactic| simp only [v_seq, v_next, v_never, v_set, v_ret, v_retN, v_ifS, v_expr, v_asg, v_par3, v_asgS2, q_lstT, q_lstL, q_lstNT, v_par, v_sub, v_for, v_break, v_cont, v_nm, v_tp, v_tpL, v_tpN, v_tpC, v_var, v_sl0, v_slS, v_c, v_nil, v_cons, v_tup, v_lst, v_lstN, v_op, v_un, v_ix, v_tst, v_tru, v_and, v_or, v_not, v_andV, v_orV, v_notV, v_if, v_ifV, q_selI, v_chain, v_noP, v_part, v_sl, v_cb, v_mt, v_call, v_items, v_enum, q_enuT, q_enuL, v_zip, q_and1, v_callN, v_callV, v_pmN, v_pmC, v_gt0, v_gtS, v_apN, v_apC, v_callH, v_lamE, v_consL, v_callC, v_capN, v_capC, v_callX, v_gX, v_inRng, v_rev0, q_rev0, q_zipT, q_zipL, v_rng1, v_rng2, v_lc, v_forL, v_lcL, dm_um, um_dm, v_yes, v_wN, v_wC, v_st0, v_stC, v_stN,
  q_add, q_mulS, q_addT, q_addS, q_addL, q_sub, q_mul, q_fdiv, q_mod, q_pow, q_neg, q_ii, q_eqI, q_eqS, q_eqB, q_is, q_it0, q_it1, q_it2, q_it3, q_ixT, q_ixL, q_ixR, q_setL, q_lenT, q_lenL, q_lenR, q_slT, q_slL, q_slC, q_app, q_ext, q_isL, q_strI, q_strS, v_fmt, q_fmtI, q_fmtS, v_lrng1, v_lrng2, v_chain3, v_raise, v_isX, v_fldX, v_try, v_join, v_jsN, v_jsC, q_strW, v_rng3, q_isLL, q_cntB, q_cntI, v_lz, q_zs, v_step, v_rev, q_revT, q_revL, q_revR, q_addN, q_addNL, q_addR, q_slR, q_isX, q_isB, q_isi_non_int, q_isi_non_bool, q_isi_non_str, q_isi_non_tuple, q_isi_non_list, q_isi_bl_int, q_isi_bl_bool, q_isi_bl_str, q_isi_bl_tuple, q_isi_bl_list, q_isi_int_int, q_isi_int_bool, q_isi_int_str, q_isi_int_tuple, q_isi_int_list, q_isi_str_int, q_isi_str_bool, q_isi_str_str, q_isi_str_tuple, q_isi_str_list, q_isi_tup_int, q_isi_tup_bool, q_isi_tup_str, q_isi_tup_tuple, q_isi_tup_list, q_isi_lst_int, q_isi_lst_bool, q_isi_lst_str, q_isi_lst_tuple, q_isi_lst_list, q_tupL, q_tupT, q_tupR, q_tb, q_tn, q_ti, q_tt, q_tl, q_abs, q_min, q_max, q_intI, q_intB, q_dnx, q_drt, q_dbk, q_dct, q_dex, q_ixN0, q_ixN1, q_ixN2, q_ixN3, exists_and_left, um_same, um_um,
  List.set_cons_zero, List.set_cons_succ, List.length_cons, List.length_nil, isNon, id, Int.lt_irrefl, decide_eq_true_eq, Bool.not_eq_true', decide_eq_false_iff_not, Bool.not_false, Bool.not_true, not_true_eq_false, not_false_eq_true, if_true, if_false, Bool.false_eq_true, ite_true, ite_false, eq_self, true_and, and_true, Option.some.injEq, MO.lst.injEq, exists_eq_left', exists_eq_left, ends])



abbrev excD : List Str := ["NoStep", "NoSide", "NoExact"]
def supT : List (Str × List Str) := [("NoStep", ["NoStep", "LostError", "LookupError", "Exception", "BaseException", "object"]), ("NoSide", ["NoSide", "LostError", "LookupError", "Exception", "BaseException", "object"]), ("NoExact", ["NoExact", "InkError", "ValueError", "Exception", "BaseException", "object"])]
def subX (C T : Str) : Bool := ((supT.lookup C).getD []).contains T
/-! points, rings, paths as data; the laws' drawn ones -/
abbrev Pt := Int × Int
def ePt (p : Pt) : D := .tup [.int p.1, .int p.2]
def eRing (r : List Pt) : D := .tup (r.map ePt)
def ePath (P : List (List Pt)) : D := .tup (P.map eRing)

/-! small helpers of the walks -/
theorem it_lit {ns : List Int} {P : Int → Prop} (hp : ∀ i, i ∈ ns → P i) {r : Int} {R : PD} {M : MS} (h0 : 0 ≤ r) (h1 : r < ns.length) (k : ∀ i, P i → R (.int i) M) : itD (ns.map D.int) r R M := by
  refine it_in h0 (by rw [List.length_map]; exact h1) fun d hd => ?_
  obtain ⟨i, hi, rfl⟩ := List.mem_map.mp hd
  exact k i (hp i hi)
theorem lg_of {i : Int} (h : -1000000000 ≤ i ∧ i ≤ 1000000000) : i.natAbs.log2 < 31 := (bd_of (n := 31) (show i.natAbs < 2 ^ 31 by omega)).log (by decide)
theorem cms {i j : Int} (hi : -1000000000 ≤ i ∧ i ≤ 1000000000) (hj : -1000000000 ≤ j ∧ j ≤ 1000000000) : CMulX i j := (bd_of (n := 31) (show i.natAbs < 2 ^ 31 by omega)).cmul (bd_of (n := 31) (show j.natAbs < 2 ^ 31 by omega)) (by decide) (by decide)
theorem cds {i j : Int} (h0 : j ≠ 0) (hj : -1000000000 ≤ j ∧ j ≤ 1000000000) : CDivX i j := ⟨h0, Nat.lt_trans (lg_of hj) (by decide)⟩
theorem mulB {a b A B : Int} (ha : 0 ≤ a ∧ a ≤ A) (hb : 0 ≤ b ∧ b ≤ B) : 0 ≤ a * b ∧ a * b ≤ A * B := ⟨Int.mul_nonneg ha.1 hb.1, Int.mul_le_mul ha.2 hb.2 hb.1 (by omega)⟩
theorem slz {n : Nat} (h : n ≤ 100000) : n ≤ sizeLine := by rw [sizeLine_eq]; omega
theorem slt {n : Nat} (h : n ≤ 100000) : n < sizeLine := by rw [sizeLine_eq]; omega
theorem rng_c {lo : Int} {n : Nat} : rng lo (n + 1) = .int lo :: rng (lo + 1) n := by
  unfold rng
  rw [List.range_succ_eq_map, List.map_cons, List.map_map]
  congr 1
  · show D.int (lo + 0) = _; rw [Int.add_zero]
  · exact List.map_congr_left fun i _ => by show D.int (lo + ((i + 1 : Nat) : Int)) = D.int (lo + 1 + (i : Int)); congr 1; omega
theorem it_at {ds : List D} {i : Int} {x : D} {R : PD} {M : MS} (n : Nat) (e : i = n) (h : ds[n]? = some x) (k : R x M) : itD ds i R M := by
  subst e
  rw [q_it h]
  exact k
theorem bdi {n : Nat} {i : Int} (h : i.natAbs < 2 ^ n) : Bd n i := h
theorem cut_take {α : Type} (xs : List α) (k : Nat) : cut xs none (some (k : Int)) = xs.take k := by
  unfold cut
  rw [HT.sIx_none, HT.sIx_nat, List.drop_zero, Nat.sub_zero, ← List.take_eq_take_min]
theorem cut_take' {α : Type} (xs : List α) {m : Int} (h : 0 ≤ m) : cut xs none (some m) = xs.take m.toNat := by
  obtain ⟨n, rfl⟩ : ∃ n : Nat, m = n := ⟨m.toNat, by omega⟩
  exact cut_take xs n
theorem cut_drop {α : Type} (xs : List α) (k : Nat) : cut xs (some (k : Int)) none = xs.drop k := by
  unfold cut
  rw [HT.sIx_none, HT.sIx_nat]
  by_cases h : k ≤ xs.length
  · rw [Nat.min_eq_left h, List.take_of_length_le (by rw [List.length_drop]; omega)]
  · rw [List.drop_eq_nil_of_le (show xs.length ≤ min k xs.length by omega), List.drop_eq_nil_of_le (show xs.length ≤ k by omega), List.take_nil]
theorem it_last {ds : List D} {x : D} {R : PD} {M : MS} (h : ds[ds.length - 1]? = some x) (k : R x M) : itD ds (-1) R M := by
  have hl : ds ≠ [] := fun e => by rw [e] at h; cases h
  have hp := List.length_pos_iff.mpr hl
  have e : atI ds (-1) = some x := by
    unfold atI
    have : ixN ds.length (-1) = some (ds.length - 1) := by
      unfold ixN
      simp
      omega
    rw [this]
    exact h
  unfold itD
  rw [e]
  exact k

/-! paths whose points are turned each *)-/
def mvP (w p : Pt) : Pt := (p.1 + w.1, p.2 + w.2)
def g_each_point : GH := fun F ws cs φ ds R E M => ∃ (P : List (List Pt)) (f : Pt → Pt), ds = [ePath P, .clo F ws cs] ∧ (P.length ≤ 100000 ∧ ∀ r, r ∈ P → r.length ≤ 100000) ∧ (∀ (p : Pt) (R : PD) (M' : MS), R (ePt (f p)) M' → φ [.int p.1, .int p.2] R (fun _ _ => False) M') ∧ (R (ePath (P.map (·.map f))) M)
abbrev n_each_point : List Str := ["path", "turn", "ring", "x", "y"]
def tb_each_point (F : LFn) (ws : List V) (cs : List D) (φ : G) : DTS :=
  (dRet (dCB tupD (dCons (dLc (dItems (dVar 0)) (.nm 2) dYes (dCB tupD (dCons (dLc (dItems (dVar 2)) (.tp [(.nm 3), (.nm 4)]) dYes (dCallC F ws cs φ (dVar 1) (dCons (dVar 3) (dCons (dVar 4) dNil))) [3, 4]) dNil)) [2]) dNil)))
theorem l_each_point : ∀ F ws cs φ ds R E M, g_each_point F ws cs φ ds R E M → ds.length = 2 := by
  rintro F ws cs φ ds R E M ⟨_, _, rfl, -⟩; rfl
theorem u_each_point {F : LFn} {ws : List V} {cs : List D} {φ : G} {P : List (List Pt)} {f : Pt → Pt} {R : PD} {E : Ex → MS → Prop} {M : MS} (hn : P.length ≤ 100000 ∧ ∀ r, r ∈ P → r.length ≤ 100000) (hf : ∀ (p : Pt) (R : PD) (M' : MS), R (ePt (f p)) M' → φ [.int p.1, .int p.2] R (fun _ _ => False) M') (k : R (ePath (P.map (·.map f))) M) : g_each_point F ws cs φ [ePath P, .clo F ws cs] R E M := ⟨_, _, rfl, hn, hf, k⟩
theorem h_each_point : HgH g_each_point tb_each_point n_each_point := by
  rintro F ws cs φ ds R E M ⟨P, f, rfl, hn, hf, k⟩
  unfold tb_each_point
  walk_at "dn"
  unfold ePath
  walk_at "dn"
  refine lc_mapG eRing (fun r => eRing (r.map f)) (fun r hr R q => ?_) (slz hn.1) ?_
  · unfold eRing
    walk_at "dn"
    refine lc_mapG ePt (fun p => ePt (f p)) (fun p hp R q => ?_) (slz (hn.2 r hr)) ?_
    · unfold ePt
      walk_at "dn"
      exact hf p R _ q
    · try walk_at "dn"
      rw [show (r.map fun p => ePt (f p)) = (r.map f).map ePt by rw [List.map_map]; rfl]
      exact q
  · try walk_at "dn"
    rw [show (P.map fun r => eRing (r.map f)) = (P.map (·.map f)).map eRing by rw [List.map_map]; rfl]
    exact Rw.of k
def g_shifted_lam1 : G := fun ds R E M => ∃ (a b x y : Int), ds = [.int a, .int b, .int x, .int y] ∧ (R (.tup [.int (a + x), .int (b + y)]) M)
abbrev n_shifted_lam1 : List Str := ["a", "b", "x", "y"]
def te_shifted_lam1 : DTE :=
  (dTup (dCons (dOp addD (dVar 0) (dVar 2)) (dCons (dOp addD (dVar 1) (dVar 3)) dNil)))
theorem l_shifted_lam1 : ∀ ds R E M, g_shifted_lam1 ds R E M → ds.length = 2 + 2 := by
  rintro ds R E M ⟨_, _, _, _, rfl, -⟩; rfl
theorem u_shifted_lam1 {a b x y : Int} {R : PD} {E : Ex → MS → Prop} {M : MS}  (k : R (.tup [.int (a + x), .int (b + y)]) M) : g_shifted_lam1 [.int a, .int b, .int x, .int y] R E M := ⟨_, _, _, _, rfl, k⟩
theorem h_shifted_lam1 : HgL g_shifted_lam1 te_shifted_lam1 n_shifted_lam1 := by
  rintro ds R E M ⟨a, b, x, y, rfl, k⟩
  unfold te_shifted_lam1
  walk_at "dn"
  exact ⟨by decide, Rw.of k⟩
def g_shifted : G := fun ds R E M => ∃ (P : List (List Pt)) (x y : Int), ds = [ePath P, .int x, .int y] ∧ (P.length ≤ 100000 ∧ ∀ r, r ∈ P → r.length ≤ 100000) ∧ (R (ePath (P.map (·.map (mvP (x, y))))) M)
abbrev n_shifted : List Str := ["path", "x", "y"]
def tb_shifted : DTS :=
  (dRet (dCallH g_each_point g_shifted_lam1 (dConsL (dVar 0) (dLamE [1, 2]))))
theorem l_shifted : ∀ ds R E M, g_shifted ds R E M → ds.length = 3 := by
  rintro ds R E M ⟨_, _, _, rfl, -⟩; rfl
theorem u_shifted {P : List (List Pt)} {x y : Int} {R : PD} {E : Ex → MS → Prop} {M : MS} (hn : P.length ≤ 100000 ∧ ∀ r, r ∈ P → r.length ≤ 100000) (k : R (ePath (P.map (·.map (mvP (x, y))))) M) : g_shifted [ePath P, .int x, .int y] R E M := ⟨_, _, _, rfl, hn, k⟩
theorem h_shifted : Hg g_shifted tb_shifted n_shifted := by
  rintro ds R E M ⟨P, x, y, rfl, hn, k⟩
  unfold tb_shifted
  walk_at "dn"
  intro F ws
  refine u_each_point (f := mvP (x, y)) hn (fun p R M' q => ?_) (Rw.of k)
  refine u_shifted_lam1 q

/-! sides: ring_sides, sides_of -/
def eSide (s : Pt × Pt) : D := .tup [ePt s.1, ePt s.2]
def sidesR (r : List Pt) : List (Pt × Pt) := r.zip (r.drop 1 ++ r.take 1)
theorem sidesR_len (r : List Pt) : (sidesR r).length = r.length := by
  unfold sidesR
  rw [List.length_zip, List.length_append, List.length_drop, List.length_take]
  omega
theorem sIx_1 (n d : Nat) : HT.sIx n d (some 1) = min 1 n := by
  unfold HT.sIx
  rfl
theorem sIx_none (n d : Nat) : HT.sIx n d none = d := rfl
theorem cut_from1 {α : Type} (xs : List α) : cut xs (some 1) none = xs.drop 1 := by
  unfold cut
  rw [sIx_1, sIx_none]
  cases xs with
  | nil => rfl
  | cons x xs =>
    rw [show min 1 (x :: xs).length = 1 by rw [List.length_cons]; omega]
    exact List.take_of_length_le (by simp)
theorem cut_to1 {α : Type} (xs : List α) : cut xs none (some 1) = xs.take 1 := by
  unfold cut
  rw [sIx_1, sIx_none]
  cases xs with
  | nil => rfl
  | cons x xs =>
    rw [show min 1 (x :: xs).length = 1 by rw [List.length_cons]; omega]
    rfl
def g_ring_sides : G := fun ds R _ M => match ds with
  | [d] => ∃ r : List Pt, d = eRing r ∧ r.length ≤ 1000000 ∧ R (.lst ((sidesR r).map eSide)) M
  | _ => False
abbrev n_ring_sides : List Str := ["ring"]
def tb_ring_sides : DTS :=
  (dRet (dLZ (dCons (dVar 0) (dCons (dOp addD (dSl (dVar 0) (dPart (dC (.int 1))) dNoPart) (dSl (dVar 0) dNoPart (dPart (dC (.int 1))))) dNil))))
theorem l_ring_sides : ∀ ds R E M, g_ring_sides ds R E M → ds.length = 1 := by
  intro ds R E M h
  unfold g_ring_sides at h
  split at h
  · rfl
  · exact h.elim
theorem h_ring_sides : Hg g_ring_sides tb_ring_sides n_ring_sides := by
  intro ds R RE M h
  unfold g_ring_sides at h
  split at h
  · obtain ⟨r, rfl, hn, k⟩ := h
    unfold tb_ring_sides eRing
    walk_at "dd"
    rw [cut_from1, cut_to1, ← List.map_drop, ← List.map_take, List.length_map, List.length_map, List.length_drop, List.length_take, ← List.map_append, List.length_map, List.length_map, List.length_append, List.length_drop, List.length_take]
    refine ⟨by rw [sizeLine_eq]; omega, by omega, ?_⟩
    rw [zipD_map]
    exact Rw.of k
  · exact h.elim
def sidesP (P : List (List Pt)) : List (Pt × Pt) := P.flatMap sidesR
theorem sidesP_len : ∀ P : List (List Pt), (sidesP P).length = P.flatten.length
  | [] => rfl
  | r :: P => by
    have h := sidesP_len P
    unfold sidesP at h ⊢
    rw [List.flatMap_cons, List.length_append, List.flatten_cons, List.length_append, h, sidesR_len]
def g_sides_of : G := fun ds R _ M => match ds with
  | [d] => ∃ P : List (List Pt), d = ePath P ∧ P.flatten.length ≤ 1000000 ∧ R (.tup ((sidesP P).map eSide)) M
  | _ => False
abbrev n_sides_of : List Str := ["path", "found", "ring"]
def tb_sides_of : DTS :=
  (dSeq (dSet 1 (dLstN dNil))
  (dSeq (dFor (dItems (dVar 0)) (.nm 2) (dExpr (dMt extD (dVar 1) (dCons (dCall g_ring_sides (dCons (dVar 2) dNil)) dNil))))
  (dRet (dCB tupD (dCons (dVar 1) dNil)))))
theorem l_sides_of : ∀ ds R E M, g_sides_of ds R E M → ds.length = 1 := by
  intro ds R E M h
  unfold g_sides_of at h
  split at h
  · rfl
  · exact h.elim
theorem h_sides_of : Hg g_sides_of tb_sides_of n_sides_of := by
  intro ds R RE M h
  unfold g_sides_of at h
  split at h
  · obtain ⟨P, rfl, hn, k⟩ := h
    unfold tb_sides_of
    walk_at "dd"
    refine ⟨by decide, fun p hp => ?_⟩
    unfold ePath
    try walk_at "dd"
    refine for_ind (fun its ρ M' => ∃ Q S : List (List Pt), its = S.map eRing ∧ P = Q ++ S ∧ M' = um M p (.lst ((sidesP Q).map eSide)) ∧ ∃ d2, ρ = [some (.tup (P.map eRing)), some (.ref p), d2]) ?_ ?_ ⟨[], P, rfl, rfl, rfl, none, rfl⟩
    · rintro d its ρ M' Kx ⟨Q, S, e1, e2, rfl, d2, rfl⟩ hk
      cases S with
      | nil => cases e1
      | cons r S =>
        cases e1
        subst e2
        walk_at "dd"
        have hl1 := sidesP_len Q
        have hl2 := sidesR_len r
        rw [List.flatten_append, List.flatten_cons, List.length_append, List.length_append] at hn
        refine ⟨⟨_, rfl⟩, r, rfl, by omega, ?_⟩
        try walk_at "dd"
        refine ⟨_, rfl, by rw [List.length_map, List.length_map, sizeLine_eq]; omega, hk _ _ ⟨Q ++ [r], S, rfl, by rw [List.append_assoc]; rfl, ?_, _, rfl⟩⟩
        have e : sidesP (Q ++ [r]) = sidesP Q ++ sidesR r := by
          unfold sidesP
          rw [List.flatMap_append, List.flatMap_cons, List.flatMap_nil, List.append_nil]
        rw [e, List.map_append]
    · rintro ρ M' ⟨Q, S, e1, e2, rfl, d2, rfl⟩
      have hS : S = [] := by cases S <;> first | rfl | cases e1
      subst hS
      rw [List.append_nil] at e2
      subst e2
      walk_at "dd"
      exact Rw.le k (Le.um hp)
  · exact h.elim

/-! paths turned about, written otherwise *)-/
theorem sidesR_get {r : List Pt} {j : Nat} (h : j < r.length) : (sidesR r)[j]? = some (r[j], r[(j + 1) % r.length]'(Nat.mod_lt _ (by omega))) := by
  unfold sidesR
  rw [List.getElem?_zip_eq_some]
  refine ⟨List.getElem?_eq_getElem h, ?_⟩
  by_cases e : j + 1 < r.length
  · rw [List.getElem?_append_left (by rw [List.length_drop]; omega), List.getElem?_drop]
    simp only [Nat.mod_eq_of_lt e]
    rw [Nat.add_comm 1 j, List.getElem?_eq_getElem e]
  · have e' : j + 1 = r.length := by omega
    rw [List.getElem?_append_right (by rw [List.length_drop]; omega), List.length_drop]
    have : j - (r.length - 1) = 0 := by omega
    simp only [e', Nat.mod_self, this]
    rw [List.getElem?_take_of_lt (by decide), List.getElem?_eq_getElem (by omega)]

def g_mirrored_lam1 : G := fun ds R E M => ∃ (a b : Int), ds = [.int a, .int b] ∧ (R (.tup [.int (0 - a), .int b]) M)
abbrev n_mirrored_lam1 : List Str := ["a", "b"]
def te_mirrored_lam1 : DTE :=
  (dTup (dCons (dOp subD (dC (.int 0)) (dVar 0)) (dCons (dVar 1) dNil)))
theorem l_mirrored_lam1 : ∀ ds R E M, g_mirrored_lam1 ds R E M → ds.length = 2 + 0 := by
  rintro ds R E M ⟨_, _, rfl, -⟩; rfl
theorem u_mirrored_lam1 {a b : Int} {R : PD} {E : Ex → MS → Prop} {M : MS}  (k : R (.tup [.int (0 - a), .int b]) M) : g_mirrored_lam1 [.int a, .int b] R E M := ⟨_, _, rfl, k⟩
theorem h_mirrored_lam1 : HgL g_mirrored_lam1 te_mirrored_lam1 n_mirrored_lam1 := by
  rintro ds R E M ⟨a, b, rfl, k⟩
  unfold te_mirrored_lam1
  walk_at "dn"
  exact ⟨by decide, Rw.of k⟩
def mrP (p : Pt) : Pt := (0 - p.1, p.2)
def g_mirrored : G := fun ds R E M => ∃ (P : List (List Pt)), ds = [ePath P] ∧ (P.length ≤ 100000 ∧ ∀ r, r ∈ P → r.length ≤ 100000) ∧ (R (ePath (P.map (·.map mrP))) M)
abbrev n_mirrored : List Str := ["path"]
def tb_mirrored : DTS :=
  (dRet (dCallH g_each_point g_mirrored_lam1 (dConsL (dVar 0) (dLamE []))))
theorem l_mirrored : ∀ ds R E M, g_mirrored ds R E M → ds.length = 1 := by
  rintro ds R E M ⟨_, rfl, -⟩; rfl
theorem u_mirrored {P : List (List Pt)} {R : PD} {E : Ex → MS → Prop} {M : MS} (hn : P.length ≤ 100000 ∧ ∀ r, r ∈ P → r.length ≤ 100000) (k : R (ePath (P.map (·.map mrP))) M) : g_mirrored [ePath P] R E M := ⟨_, rfl, hn, k⟩
theorem h_mirrored : Hg g_mirrored tb_mirrored n_mirrored := by
  rintro ds R E M ⟨P, rfl, hn, k⟩
  unfold tb_mirrored
  walk_at "dn"
  intro F ws
  refine u_each_point (f := mrP) hn (fun p R M' q => ?_) (Rw.of k)
  refine u_mirrored_lam1 q
def rvR (r : List Pt) : List Pt := r.take 1 ++ (r.drop 1).reverse
def g_reversed_path : G := fun ds R E M => ∃ (P : List (List Pt)), ds = [ePath P] ∧ (P.length ≤ 100000 ∧ ∀ r, r ∈ P → r.length ≤ 100000) ∧ (R (ePath (P.map rvR)) M)
abbrev n_reversed_path : List Str := ["path", "ring"]
def tb_reversed_path : DTS :=
  (dRet (dCB tupD (dCons (dLc (dItems (dVar 0)) (.nm 1) dYes (dOp addD (dSl (dVar 1) dNoPart (dPart (dC (.int 1)))) (dRev0 (dVar 1))) [1]) dNil)))
theorem l_reversed_path : ∀ ds R E M, g_reversed_path ds R E M → ds.length = 1 := by
  rintro ds R E M ⟨_, rfl, -⟩; rfl
theorem u_reversed_path {P : List (List Pt)} {R : PD} {E : Ex → MS → Prop} {M : MS} (hn : P.length ≤ 100000 ∧ ∀ r, r ∈ P → r.length ≤ 100000) (k : R (ePath (P.map rvR)) M) : g_reversed_path [ePath P] R E M := ⟨_, rfl, hn, k⟩
theorem h_reversed_path : Hg g_reversed_path tb_reversed_path n_reversed_path := by
  rintro ds R E M ⟨P, rfl, hn, k⟩
  unfold tb_reversed_path
  walk_at "dn"
  unfold ePath
  walk_at "dn"
  refine lc_mapG eRing (fun r => eRing (rvR r)) (fun r hr R q => ?_) (slz hn.1) ?_
  · unfold eRing
    walk_at "dn"
    have h8 := hn.2 r hr
    rw [cut_to1, ← List.map_take, ← List.map_drop, ← List.map_reverse, ← List.map_append]
    exact ⟨slz (by rw [List.length_map, List.length_map, List.length_reverse, List.length_take, List.length_drop]; omega), q⟩
  · try walk_at "dn"
    rw [show (P.map fun r => eRing (rvR r)) = (P.map rvR).map eRing by rw [List.map_map]; rfl]
    exact Rw.of k
def g_put : G := fun ds R E M => ∃ (A B : List D) (x d : D), ds = [.tup (A ++ x :: B), .int (A.length : Int), d] ∧ (A.length + B.length ≤ 20000) ∧ (R (.tup (A ++ d :: B)) M)
abbrev n_put : List Str := ["things", "at", "thing"]
def tb_put : DTS :=
  (dRet (dOp addD (dOp addD (dSl (dVar 0) dNoPart (dPart (dVar 1))) (dTup (dCons (dVar 2) dNil))) (dSl (dVar 0) (dPart (dOp addD (dVar 1) (dC (.int 1)))) dNoPart)))
theorem l_put : ∀ ds R E M, g_put ds R E M → ds.length = 3 := by
  rintro ds R E M ⟨_, _, _, _, rfl, -⟩; rfl
theorem u_put {A B : List D} {x d : D} {R : PD} {E : Ex → MS → Prop} {M : MS} (hl : A.length + B.length ≤ 20000) (k : R (.tup (A ++ d :: B)) M) : g_put [.tup (A ++ x :: B), .int (A.length : Int), d] R E M := ⟨_, _, _, _, rfl, hl, k⟩
theorem h_put : Hg g_put tb_put n_put := by
  rintro ds R E M ⟨A, B, x, d, rfl, hl, k⟩
  unfold tb_put
  walk_at "dn"
  have e1 : cut (A ++ x :: B) none (some (A.length : Int)) = A := by rw [cut_take]; simp
  have e2 : cut (A ++ x :: B) (some ((A.length : Int) + 1)) none = B := by
    rw [show ((A.length : Int) + 1) = ((A.length + 1 : Nat) : Int) by omega, cut_drop]
    simp
  rw [e1, e2, List.append_assoc]
  refine ⟨by decide, slz (by omega), slz (by rw [List.length_append, List.length_singleton]; omega), Rw.of k⟩
def g_joined_paths : G := fun ds R E M => ∃ (P Q : List (List Pt)), ds = [ePath P, ePath Q] ∧ (P.length + Q.length ≤ 100000) ∧ (R (ePath (P ++ Q)) M)
abbrev n_joined_paths : List Str := ["one", "other"]
def tb_joined_paths : DTS :=
  (dRet (dOp addD (dVar 0) (dVar 1)))
theorem l_joined_paths : ∀ ds R E M, g_joined_paths ds R E M → ds.length = 2 := by
  rintro ds R E M ⟨_, _, rfl, -⟩; rfl
theorem u_joined_paths {P Q : List (List Pt)} {R : PD} {E : Ex → MS → Prop} {M : MS} (hn : P.length + Q.length ≤ 100000) (k : R (ePath (P ++ Q)) M) : g_joined_paths [ePath P, ePath Q] R E M := ⟨_, _, rfl, hn, k⟩
theorem h_joined_paths : Hg g_joined_paths tb_joined_paths n_joined_paths := by
  rintro ds R E M ⟨P, Q, rfl, hn, k⟩
  unfold tb_joined_paths
  unfold ePath
  walk_at "dn"
  refine ⟨slz (by simpa using hn), ?_⟩
  rw [show P.map eRing ++ Q.map eRing = (P ++ Q).map eRing by rw [List.map_append]]
  exact Rw.of k
theorem sidesP_at {A B : List (List Pt)} {r : List Pt} {j : Nat} (hj : j < r.length) : (sidesP (A ++ r :: B))[A.flatten.length + j]? = some (r[j], r[(j + 1) % r.length]'(Nat.mod_lt _ (by omega))) := by
  unfold sidesP
  rw [List.flatMap_append, List.flatMap_cons]
  have hA : (A.flatMap sidesR).length = A.flatten.length := sidesP_len A
  rw [List.getElem?_append_right (by omega), hA, Nat.add_sub_cancel_left, List.getElem?_append_left (by rw [sidesR_len]; exact hj)]
  exact sidesR_get hj
def midP (a b : Pt) : Pt := ((a.1 + b.1).fdiv 2, (a.2 + b.2).fdiv 2)
def evS (a b : Pt) : Prop := (a.1 + b.1).fmod 2 ≠ 1 ∧ (a.2 + b.2).fmod 2 ≠ 1

/-! a side by its number -/
def sideAt (P : List (List Pt)) (n : Int) : Option (Pt × Pt) := if 0 ≤ n then (sidesP P)[n.toNat]? else none
theorem use_sides6 {P : List (List Pt)} {R : PD} {E : Ex → MS → Prop} {M : MS} (h : P.flatten.length ≤ 10000) (k : R (.tup ((sidesP P).map eSide)) M) : g_sides_of [ePath P] R E M := ⟨P, rfl, by omega, k⟩
theorem sideAt_in {P : List (List Pt)} {n : Int} (h0 : 0 ≤ n) (h1 : n < (sidesP P).length) : ∃ s, sideAt P n = some s ∧ (sidesP P)[n.toNat]? = some s := by
  have h2 : n.toNat < (sidesP P).length := by omega
  exact ⟨_, by unfold sideAt; rw [if_pos h0, List.getElem?_eq_getElem h2], List.getElem?_eq_getElem h2⟩
theorem sideAt_out {P : List (List Pt)} {n : Int} (h : n < 0 ∨ ((sidesP P).length : Int) ≤ n) : sideAt P n = none := by
  unfold sideAt
  split
  · rename_i h0
    exact List.getElem?_eq_none (by omega)
  · rfl
theorem it_side {P : List (List Pt)} {n : Int} {s : Pt × Pt} {R : PD} {M : MS} (h0 : 0 ≤ n) (e : (sidesP P)[n.toNat]? = some s) (k : R (eSide s) M) : itD ((sidesP P).map eSide) n R M := by
  obtain ⟨m, rfl⟩ : ∃ m : Nat, n = m := ⟨n.toNat, by omega⟩
  rw [Int.toNat_natCast] at e
  rw [q_it (x := eSide s) (by rw [List.getElem?_map, e]; rfl)]
  exact k
def g_side_of : G := fun ds R E M => match ds with
  | [d, .int n] => ∃ P, d = ePath P ∧ P.flatten.length ≤ 10000 ∧ (∀ s, sideAt P n = some s → R (eSide s) M) ∧ (sideAt P n = none → E ⟨"NoSide", [("number", .int n)]⟩ M)
  | _ => False
abbrev n_side_of : List Str := ["path", "number", "sides"]
def tb_side_of : DTS :=
  (dSeq (dSet 2 (dCall g_sides_of (dCons (dVar 0) dNil)))
  (dSeq (dIfS (dOr (dTst (dOp ltD (dVar 1) (dC (.int 0)))) (dTst (dOp geD (dVar 1) (dCB lenD (dCons (dVar 2) dNil))))) (dRaise "NoSide" ["number"] (dCons (dVar 1) dNil)) dNext)
  (dRet (dIx (dVar 2) (dVar 1)))))
theorem l_side_of : ∀ ds R E M, g_side_of ds R E M → ds.length = 2 := by
  intro ds R E M h
  unfold g_side_of at h
  split at h
  · rfl
  · exact h.elim
theorem use_sideof {P : List (List Pt)} {n : Int} {R : PD} {E : Ex → MS → Prop} {M : MS} (h : P.flatten.length ≤ 10000) (k : ∀ s, sideAt P n = some s → R (eSide s) M) (ke : sideAt P n = none → E ⟨"NoSide", [("number", .int n)]⟩ M) : g_side_of [ePath P, .int n] R E M := ⟨P, rfl, h, k, ke⟩
theorem h_side_of : Hg g_side_of tb_side_of n_side_of := by
  intro ds R RE M h
  unfold g_side_of at h
  split at h
  · rename_i d n
    obtain ⟨P, rfl, hP, k, ke⟩ := h
    have hl : (sidesP P).length ≤ 10000 := by rw [sidesP_len]; exact hP
    unfold tb_side_of
    walk_at "dn"
    refine use_sides6 hP ?_
    try walk_at "dn"
    rw [List.length_map]
    by_cases h0 : n < 0
    · rw [if_pos h0]
      exact ⟨M, Le.refl M, ke (sideAt_out (.inl h0))⟩
    · rw [if_neg h0]
      by_cases h1 : ((sidesP P).length : Int) ≤ n
      · rw [if_pos h1]
        exact ⟨M, Le.refl M, ke (sideAt_out (.inr h1))⟩
      · rw [if_neg h1]
        obtain ⟨s, e1, e2⟩ := sideAt_in (P := P) (n := n) (by omega) (by omega)
        exact it_side (by omega) e2 (Rw.of (k s e1))
  · exact h.elim

/-! k09: rings begun elsewhere, middles put in; refused *)-/
def rotR (r : List Pt) (j : Nat) : List Pt := r.drop j ++ r.take j
def setR (P : List (List Pt)) (i : Nat) (r : List Pt) : List (List Pt) := P.take i ++ r :: P.drop (i + 1)
theorem P_at {P : List (List Pt)} {i : Nat} {r : List Pt} (h : P[i]? = some r) : P = P.take i ++ r :: P.drop (i + 1) := by
  obtain ⟨h1, rfl⟩ := List.getElem?_eq_some_iff.mp h
  rw [← List.drop_eq_getElem_cons h1, List.take_append_drop]
theorem it_P {P : List (List Pt)} {n : Nat} {r : List Pt} {R : PD} {M : MS} (h : P[n]? = some r) (k : R (eRing r) M) : itD (P.map eRing) (n : Int) R M := by
  rw [q_it (x := eRing r) (by rw [List.getElem?_map, h]; rfl)]
  exact k
def ringAt (P : List (List Pt)) (i : Int) : Option (List Pt) := if 0 ≤ i then P[i.toNat]? else none
theorem ringAt_in {P : List (List Pt)} {i : Int} (h0 : 0 ≤ i) (h1 : i < P.length) : ∃ (n : Nat) (r : List Pt), i = n ∧ P[n]? = some r ∧ ringAt P i = some r := by
  have h2 : i.toNat < P.length := by omega
  exact ⟨i.toNat, P[i.toNat], by omega, List.getElem?_eq_getElem h2, by unfold ringAt; rw [if_pos h0, List.getElem?_eq_getElem h2]⟩
theorem ringAt_out {P : List (List Pt)} {i : Int} (h : i < 0 ∨ (P.length : Int) ≤ i) : ringAt P i = none := by
  unfold ringAt
  split
  · exact List.getElem?_eq_none (by omega)
  · rfl
/-- what begun_at comes to *)-/
def begOk (P : List (List Pt)) (i j : Int) (R : PD) (E : Ex → MS → Prop) (M : MS) : Prop :=
  match ringAt P i with
  | none => E ⟨"NoStep", [("number", .int i)]⟩ M
  | some r => if 0 ≤ j ∧ j.toNat < r.length then R (ePath (setR P i.toNat (rotR r j.toNat))) M else E ⟨"NoStep", [("number", .int j)]⟩ M
def g_begun_at : G := fun ds R E M => ∃ (P : List (List Pt)) (i j : Int), ds = [ePath P, .int i, .int j] ∧ (P.length ≤ 10000) ∧ (∀ r, r ∈ P → r.length ≤ 10000) ∧ (begOk P i j R E M)
abbrev n_begun_at : List Str := ["path", "ring", "at", "own"]
def tb_begun_at : DTS :=
  (dSeq (dIfS (dOr (dTst (dOp ltD (dVar 1) (dC (.int 0)))) (dTst (dOp geD (dVar 1) (dCB lenD (dCons (dVar 0) dNil))))) (dRaise "NoStep" ["number"] (dCons (dVar 1) dNil)) dNext)
  (dSeq (dSet 3 (dIx (dVar 0) (dVar 1)))
  (dSeq (dIfS (dOr (dTst (dOp ltD (dVar 2) (dC (.int 0)))) (dTst (dOp geD (dVar 2) (dCB lenD (dCons (dVar 3) dNil))))) (dRaise "NoStep" ["number"] (dCons (dVar 2) dNil)) dNext)
  (dRet (dCall g_put (dCons (dVar 0) (dCons (dVar 1) (dCons (dOp addD (dSl (dVar 3) (dPart (dVar 2)) dNoPart) (dSl (dVar 3) dNoPart (dPart (dVar 2)))) dNil))))))))
theorem l_begun_at : ∀ ds R E M, g_begun_at ds R E M → ds.length = 3 := by
  rintro ds R E M ⟨_, _, _, rfl, -⟩; rfl
theorem u_begun_at {P : List (List Pt)} {i j : Int} {R : PD} {E : Ex → MS → Prop} {M : MS} (hl : P.length ≤ 10000) (hr : ∀ r, r ∈ P → r.length ≤ 10000) (k : begOk P i j R E M) : g_begun_at [ePath P, .int i, .int j] R E M := ⟨_, _, _, rfl, hl, hr, k⟩
theorem h_begun_at : Hg g_begun_at tb_begun_at n_begun_at := by
  rintro ds R E M ⟨P, i, j, rfl, hl, hr, k⟩
  unfold tb_begun_at
  unfold begOk at k
  unfold ePath
  walk_at "dn"
  rw [List.length_map]
  by_cases c1 : i < 0
  · rw [if_pos c1]
    rw [ringAt_out (.inl c1)] at k
    exact ⟨M, Le.refl M, k⟩
  · rw [if_neg c1]
    by_cases c2 : (P.length : Int) ≤ i
    · rw [if_pos c2]
      rw [ringAt_out (.inr c2)] at k
      exact ⟨M, Le.refl M, k⟩
    · rw [if_neg c2]
      obtain ⟨n, r, rfl, hg, e⟩ := ringAt_in (P := P) (i := i) (by omega) (by omega)
      rw [e] at k
      replace k : if 0 ≤ j ∧ j.toNat < r.length then R (ePath (setR P n (rotR r j.toNat))) M else E ⟨"NoStep", [("number", .int j)]⟩ M := k
      refine it_P hg ?_
      have hrl := hr _ (List.mem_of_getElem? hg)
      have hn1 := (List.getElem?_eq_some_iff.mp hg).1
      unfold eRing
      by_cases d1 : j < 0
      · rw [if_pos d1]
        rw [if_neg (by omega)] at k
        exact ⟨M, Le.refl M, k⟩
      · rw [if_neg d1]
        rw [q_lenT, List.length_map]
        unfold geD
        rw [q_ii]
        try simp only []
        by_cases d2 : (r.length : Int) ≤ j
        · rw [if_pos (by simp only [decide_eq_true_eq]; omega)]
          rw [if_neg (by omega)] at k
          exact ⟨M, Le.refl M, k⟩
        · rw [if_neg (by simp only [decide_eq_true_eq]; omega)]
          rw [if_pos ⟨by omega, by omega⟩] at k
          obtain ⟨m, rfl⟩ : ∃ n : Nat, j = n := ⟨j.toNat, by omega⟩
          rw [Int.toNat_natCast] at k
          try walk_at "dn"
          rw [cut_take, cut_drop, ← List.map_take, ← List.map_drop, ← List.map_append]
          refine ⟨slz (by rw [List.length_map, List.length_map, List.length_drop, List.length_take]; omega), ?_⟩
          have eP : P.map eRing = (P.take n).map eRing ++ eRing r :: (P.drop (n + 1)).map eRing := by
            rw [← List.map_cons, ← List.map_append, ← P_at hg]
          have hn : ((P.take n).map eRing).length = n := by rw [List.length_map, List.length_take]; omega
          have put := fun (x : D) => u_put (A := (P.take n).map eRing) (B := (P.drop (n + 1)).map eRing) (x := eRing r) (d := x) (R := Rw R) (E := fun x M' => ∃ M'_1, Le M'_1 M' ∧ E x M'_1) (M := M) (by rw [hn, List.length_map, List.length_drop]; omega)
          rw [hn, ← eP] at put
          refine put (eRing (rotR r m)) (Rw.of ?_)
          unfold ePath setR at k
          rw [List.map_append, List.map_cons] at k
          exact k
/-- a middle put in behind point n *)-/
def putMid : List (List Pt) → Nat → Pt → List (List Pt)
  | [], _, _ => []
  | r :: P, n, m => if n < r.length then (r.take (n + 1) ++ m :: r.drop (n + 1)) :: P else r :: putMid P (n - r.length) m
theorem putMid_at (m : Pt) : ∀ (A : List (List Pt)) (r : List Pt) (B : List (List Pt)) (j : Nat), j < r.length → putMid (A ++ r :: B) (A.flatten.length + j) m = A ++ (r.take (j + 1) ++ m :: r.drop (j + 1)) :: B
  | [], r, B, j, h => by
    show (if _ then _ else _) = _
    rw [if_pos (by simpa using h)]
    simp
  | a :: A, r, B, j, h => by
    have ih := putMid_at m A r B j h
    show (if _ then _ else _) = _
    rw [List.flatten_cons, List.length_append, if_neg (by omega), show a.length + A.flatten.length + j - a.length = A.flatten.length + j by omega]
    show a :: putMid (A ++ r :: B) _ m = _
    rw [ih]; rfl
def evB (a b : Pt) : Bool := decide ((a.1 + b.1).fmod 2 ≠ 1) && decide ((a.2 + b.2).fmod 2 ≠ 1)
def midOk (P : List (List Pt)) (n : Int) (R : PD) (E : Ex → MS → Prop) (M : MS) : Prop :=
  match sideAt P n with
  | none => E ⟨"NoSide", [("number", .int n)]⟩ M
  | some (a, b) => if evB a b = true then R (ePath (putMid P n.toNat (midP a b))) M else E ⟨"NoExact", [("side", eSide (a, b))]⟩ M
theorem split_at : ∀ (P : List (List Pt)) (n : Nat), n < P.flatten.length → ∃ A r B j, P = A ++ r :: B ∧ j < r.length ∧ n = A.flatten.length + j := by
  intro P
  induction P with
  | nil => intro n h; simp at h
  | cons r P ih =>
    intro n h
    by_cases c : n < r.length
    · exact ⟨[], r, P, n, rfl, c, by simp⟩
    · rw [List.flatten_cons, List.length_append] at h
      obtain ⟨A, r', B, j, rfl, hj, e⟩ := ih (n - r.length) (by omega)
      exact ⟨r :: A, r', B, j, rfl, hj, by rw [List.flatten_cons, List.length_append]; omega⟩
def g_with_point : G := fun ds R E M => ∃ (P : List (List Pt)) (n : Int), ds = [ePath P, .int n] ∧ (P.length ≤ 10000) ∧ (P.flatten.length ≤ 10000) ∧ (midOk P n R E M)
abbrev n_with_point : List Str := ["path", "number", "side", "own", "across", "along", "ring", "at"]
def tb_with_point_c6 : DTS :=
  (dRet (dCall g_put (dCons (dVar 0) (dCons (dVar 6) (dCons (dOp addD (dOp addD (dSl (dVar 3) dNoPart (dPart (dOp addD (dVar 7) (dC (.int 1))))) (dTup (dCons (dTup (dCons (dOp fdivD (dVar 4) (dC (.int 2))) (dCons (dOp fdivD (dVar 5) (dC (.int 2))) dNil))) dNil))) (dSl (dVar 3) (dPart (dOp addD (dVar 7) (dC (.int 1)))) dNoPart)) dNil)))))
def tb_with_point_c4_p (t_c6 : DTS) : DTS :=
  (dSeq (dWhile (dTst (dOp geD (dVar 7) (dCB lenD (dCons (dIx (dVar 0) (dVar 6)) dNil)))) (dSeq (dSet 7 (dOp subD (dVar 7) (dCB lenD (dCons (dIx (dVar 0) (dVar 6)) dNil))))
  (dSet 6 (dOp addD (dVar 6) (dC (.int 1))))))
  (dSeq (dSet 3 (dIx (dVar 0) (dVar 6)))
  t_c6))
def tb_with_point_c4 : DTS := tb_with_point_c4_p tb_with_point_c6
def tb_with_point_p (t_c4 : DTS) : DTS :=
  (dSeq (dSet 2 (dCall g_side_of (dCons (dVar 0) (dCons (dVar 1) dNil))))
  (dSeq (dPar 4 5 (dCons (dOp addD (dIx (dIx (dVar 2) (dC (.int 0))) (dC (.int 0))) (dIx (dIx (dVar 2) (dC (.int 1))) (dC (.int 0)))) (dCons (dOp addD (dIx (dIx (dVar 2) (dC (.int 0))) (dC (.int 1))) (dIx (dIx (dVar 2) (dC (.int 1))) (dC (.int 1)))) dNil)))
  (dSeq (dIfS (dOr (dTst (dOp (eqD id) (dOp modD (dVar 4) (dC (.int 2))) (dC (.int 1)))) (dTst (dOp (eqD id) (dOp modD (dVar 5) (dC (.int 2))) (dC (.int 1))))) (dRaise "NoExact" ["side"] (dCons (dVar 2) dNil)) dNext)
  (dSeq (dPar 6 7 (dCons (dC (.int 0)) (dCons (dVar 1) dNil)))
  t_c4))))
def tb_with_point : DTS := tb_with_point_p tb_with_point_c4
theorem l_with_point : ∀ ds R E M, g_with_point ds R E M → ds.length = 2 := by
  rintro ds R E M ⟨_, _, rfl, -⟩; rfl
theorem u_with_point {P : List (List Pt)} {n : Int} {R : PD} {E : Ex → MS → Prop} {M : MS} (hl : P.length ≤ 10000) (hf : P.flatten.length ≤ 10000) (k : midOk P n R E M) : g_with_point [ePath P, .int n] R E M := ⟨_, _, rfl, hl, hf, k⟩
theorem wp_c4p {A B : List (List Pt)} {r : List Pt} {j : Nat} {tc : DTS} {De : DEnds} {M : MS} {d1 d2 d3 d4 d5 : Option D} (hj : j < r.length) (hl : A.length + B.length ≤ 10000) (hf : (A ++ r :: B).flatten.length ≤ 10000)
    (k : tc De [some (ePath (A ++ r :: B)), d1, d2, some (eRing r), d4, d5, some (.int (A.length : Int)), some (.int (j : Int))] M) :
    tb_with_point_c4_p tc De [some (ePath (A ++ r :: B)), d1, d2, d3, d4, d5, some (.int 0), some (.int ((A.flatten.length + j : Nat) : Int))] M := by
  unfold tb_with_point_c4_p
  rw [v_seq]
  have itm : ∀ (A1 A2 : List (List Pt)) (x : List Pt) (C : List (List Pt)) (R : PD) (M : MS), A1 ++ A2 = A ++ r :: B → A2 = x :: C → R (eRing x) M → itD ((A ++ r :: B).map eRing) (A1.length : Int) R M := fun A1 A2 x C R M e e2 q => by
    rw [q_it (x := eRing x) (by rw [← e, e2, List.map_append, List.getElem?_append_right (by rw [List.length_map]; omega), List.length_map]; simp)]
    exact q
  refine while_ind (fun m ρ M' => M' = M ∧ ∃ A1 A2, A = A1 ++ A2 ∧ m = A2.length ∧ ρ = [some (ePath (A ++ r :: B)), d1, d2, d3, d4, d5, some (.int (A1.length : Int)), some (.int ((A2.flatten.length + j : Nat) : Int))]) ?_ ⟨rfl, [], A, rfl, rfl, rfl⟩
  rintro m ρ M' Kx ⟨rfl, A1, A2, e, rfl, rfl⟩ hk
  cases A2 with
  | nil =>
    rw [List.append_nil] at e
    subst e
    unfold ePath at k ⊢
    walk_at "dn"
    refine itm A (r :: B) r B _ _ rfl rfl ?_
    change lenD [D.tup (r.map ePt)] _ _
    rw [q_lenT, List.length_map]
    unfold geD
    rw [q_ii]
    try simp only []
    rw [if_neg (by simp only [decide_eq_true_eq, List.flatten_nil, List.length_nil]; omega)]
    refine itm A (r :: B) r B _ _ rfl rfl ?_
    rw [show ([] : List (List Pt)).flatten.length + j = j by simp]
    exact k
  | cons x C =>
    unfold ePath at hk ⊢
    walk_at "dn"
    have fl : (x :: C).flatten.length = x.length + C.flatten.length := by rw [List.flatten_cons, List.length_append]
    refine itm A1 (x :: C ++ r :: B) x (C ++ r :: B) _ _ (by rw [e]; simp) rfl ?_
    change lenD [D.tup (x.map ePt)] _ _
    rw [q_lenT, List.length_map]
    unfold geD
    rw [q_ii]
    try simp only []
    rw [if_pos (by simp only [decide_eq_true_eq]; omega)]
    refine itm A1 (x :: C ++ r :: B) x (C ++ r :: B) _ _ (by rw [e]; simp) rfl ?_
    change lenD [D.tup (x.map ePt)] _ _
    rw [q_lenT, List.length_map, q_sub]
    refine hk C.length _ _ (by simp) ⟨rfl, A1 ++ [x], C, by rw [e]; simp, rfl, ?_⟩
    rw [show (((x :: C).flatten.length + j : Nat) : Int) - (x.length : Int) = ((C.flatten.length + j : Nat) : Int) by omega, show (A1.length : Int) + 1 = ((A1 ++ [x]).length : Int) by simp]
theorem wp_c6 {A B : List (List Pt)} {r : List Pt} {j : Nat} {a b : Pt} {R : PD} {E : Ex → MS → Prop} {M : MS} {d1 d2 : Option D} (hj : j < r.length) (hl : A.length + B.length ≤ 10000) (hr : r.length ≤ 10000)
    (k : R (ePath (A ++ (r.take (j + 1) ++ midP a b :: r.drop (j + 1)) :: B)) M) :
    tb_with_point_c6 (ends R E) [some (ePath (A ++ r :: B)), d1, d2, some (eRing r), some (.int (a.1 + b.1)), some (.int (a.2 + b.2)), some (.int (A.length : Int)), some (.int (j : Int))] M := by
  have eP : ∀ r : List Pt, (A ++ r :: B).map eRing = A.map eRing ++ eRing r :: B.map eRing := fun r => by rw [List.map_append, List.map_cons]
  have put := fun (x : D) => u_put (A := A.map eRing) (B := B.map eRing) (x := eRing r) (d := x) (R := Rw R) (E := fun x M' => ∃ M'_1, Le M'_1 M' ∧ E x M'_1) (M := M) (by rw [List.length_map, List.length_map]; omega)
  rw [List.length_map] at put
  unfold tb_with_point_c6 ePath
  unfold ePath at k
  rw [eP] at k ⊢
  walk_at "dn"
  have e1 : cut (r.map ePt) none (some ((j : Int) + 1)) = (r.take (j + 1)).map ePt := by
    rw [show ((j : Int) + 1) = ((j + 1 : Nat) : Int) by omega, cut_take, List.map_take]
  have e2 : cut (r.map ePt) (some ((j : Int) + 1)) none = (r.drop (j + 1)).map ePt := by
    rw [show ((j : Int) + 1) = ((j + 1 : Nat) : Int) by omega, cut_drop, List.map_drop]
  change slD (D.tup (r.map ePt)) none (some ((j : Int) + 1)) _ _
  rw [q_slT, e1]
  refine ⟨⟨by decide, by decide⟩, ⟨by decide, by decide⟩, by decide, by decide, ?_⟩
  rw [q_addT]
  refine ⟨slz (by rw [List.length_map, List.length_take]; simp; omega), ?_⟩
  change slD (D.tup (r.map ePt)) (some ((j : Int) + 1)) none _ _
  rw [q_slT, e2, q_addT]
  refine ⟨slz (by rw [List.length_append, List.length_map, List.length_map, List.length_take, List.length_drop]; simp; omega), ?_⟩
  have e3 : D.tup ((r.take (j + 1)).map ePt ++ [D.tup [D.int ((a.1 + b.1).fdiv 2), D.int ((a.2 + b.2).fdiv 2)]] ++ (r.drop (j + 1)).map ePt) = eRing (r.take (j + 1) ++ midP a b :: r.drop (j + 1)) := by
    unfold eRing
    rw [List.map_append, List.map_cons, List.append_assoc]; rfl
  rw [e3]
  exact put _ (Rw.of k)

theorem wp_none {P : List (List Pt)} {n : Int} {tc : DTS} {R : PD} {E : Ex → MS → Prop} {M : MS} (hz : sideAt P n = none) (hf : P.flatten.length ≤ 10000) (h : E ⟨"NoSide", [("number", .int n)]⟩ M) :
    tb_with_point_p tc (ends R E) (startD n_with_point [ePath P, .int n]) M := by
  unfold tb_with_point_p
  walk_at "dn"
  exact use_sideof hf (fun s e => by rw [hz] at e; cases e) fun _ => ⟨M, Le.refl M, h⟩
theorem wp_0q {P : List (List Pt)} {n : Int} {a b : Pt} {tc : DTS} {R : PD} {E : Ex → MS → Prop} {M : MS} (hz : sideAt P n = some (a, b)) (hf : P.flatten.length ≤ 10000)
    (h : if evB a b = true then tc (ends R E) [some (ePath P), some (.int n), some (eSide (a, b)), none, some (.int (a.1 + b.1)), some (.int (a.2 + b.2)), some (.int 0), some (.int n)] M else E ⟨"NoExact", [("side", eSide (a, b))]⟩ M) :
    tb_with_point_p tc (ends R E) (startD n_with_point [ePath P, .int n]) M := by
  unfold tb_with_point_p
  walk_at "dn"
  refine use_sideof hf (fun s e => ?_) fun e => by rw [hz] at e; cases e
  rw [hz] at e
  cases e
  unfold eSide ePt at h ⊢
  walk_at "dn"
  refine ⟨by decide, ?_⟩
  unfold evB at h
  by_cases c1 : (a.1 + b.1).fmod 2 = 1
  · rw [if_pos c1]
    rw [if_neg (by simp [c1])] at h
    exact ⟨M, Le.refl M, h⟩
  · rw [if_neg c1]
    refine ⟨by decide, ?_⟩
    by_cases c2 : (a.2 + b.2).fmod 2 = 1
    · rw [if_pos c2]
      rw [if_neg (by simp [c2])] at h
      exact ⟨M, Le.refl M, h⟩
    · rw [if_neg c2]
      rw [if_pos (by simp [c1, c2])] at h
      exact h
theorem h_with_point : Hg g_with_point tb_with_point n_with_point := by
  rintro ds R E M ⟨P, n, rfl, hl, hf, k⟩
  unfold tb_with_point
  unfold midOk at k
  cases hz : sideAt P n with
  | none =>
    rw [hz] at k
    exact wp_none (tc := tb_with_point_c4) hz hf k
  | some z =>
    obtain ⟨a, b⟩ := z
    rw [hz] at k
    refine wp_0q (tc := tb_with_point_c4) hz hf ?_
    replace k : if evB a b = true then R (ePath (putMid P n.toNat (midP a b))) M else E ⟨"NoExact", [("side", eSide (a, b))]⟩ M := k
    split
    · rename_i c
      rw [if_pos c] at k
      have h0 : 0 ≤ n := by
        unfold sideAt at hz
        split at hz
        · assumption
        · cases hz
      obtain ⟨m, rfl⟩ : ∃ m : Nat, n = m := ⟨n.toNat, by omega⟩
      have hm : m < P.flatten.length := by
        unfold sideAt at hz
        rw [if_pos h0] at hz
        have := (List.getElem?_eq_some_iff.mp hz).1
        rw [sidesP_len] at this
        exact this
      obtain ⟨A, r, B, j, rfl, hj, rfl⟩ := split_at P m hm
      have hr : r.length ≤ 10000 := by
        rw [List.flatten_append, List.flatten_cons, List.length_append, List.length_append] at hf
        omega
      rw [List.length_append, List.length_cons] at hl
      rw [Int.toNat_natCast, putMid_at _ _ _ _ _ hj] at k
      exact wp_c4p (tc := tb_with_point_c6) hj (by omega) hf (wp_c6 hj (by omega) hr k)
    · rename_i c
      rw [if_neg c] at k
      exact k

/-! the law's own sides -/
def g__law_sides : G := fun ds R _ M => match ds with
  | [d] => ∃ P, d = ePath P ∧ P.flatten.length ≤ 10000 ∧ R (.lst ((sidesP P).map eSide)) M
  | _ => False

abbrev n__law_sides : List Str := ["path", "found", "ring", "k"]
def tb__law_sides : DTS :=
  (dSeq (dSet 1 (dLstN dNil))
  (dSeq (dFor (dItems (dVar 0)) (.nm 2) (dFor (dRng1 (dCons (dCB lenD (dCons (dVar 2) dNil)) dNil)) (.nm 3) (dExpr (dMt appD (dVar 1) (dCons (dTup (dCons (dIx (dVar 2) (dVar 3)) (dCons (dIf (dTst (dOp ltD (dOp addD (dVar 3) (dC (.int 1))) (dCB lenD (dCons (dVar 2) dNil)))) (dIx (dVar 2) (dOp addD (dVar 3) (dC (.int 1)))) (dIx (dVar 2) (dC (.int 0)))) dNil))) dNil)))))
  (dRet (dVar 1))))
theorem l__law_sides : ∀ ds R E M, g__law_sides ds R E M → ds.length = 1 := by
  intro ds R E M h
  unfold g__law_sides at h
  split at h
  · rfl
  · exact h.elim
theorem use_lsides {P : List (List Pt)} {R : PD} {E : Ex → MS → Prop} {M : MS} (h : P.flatten.length ≤ 10000) (k : R (.lst ((sidesP P).map eSide)) M) : g__law_sides [ePath P] R E M := ⟨P, rfl, h, k⟩
theorem h__law_sides : Hg g__law_sides tb__law_sides n__law_sides := by
  intro ds R RE M h
  unfold g__law_sides at h
  split at h
  · rename_i d
    obtain ⟨P, rfl, hP, k⟩ := h
    have hl : (sidesP P).length ≤ 10000 := by rw [sidesP_len]; exact hP
    unfold tb__law_sides ePath
    walk_at "dn"
    refine ⟨by decide, fun p hp => ?_⟩
    refine for_ind (fun its ρ M' => ∃ pre suf, its = suf.map eRing ∧ P = pre ++ suf ∧ M' = um M p (.lst ((sidesP pre).map eSide)) ∧ ∃ d0 d2 d3, ρ = [d0, some (.ref p), d2, d3]) ?_ ?_ ⟨[], P, rfl, rfl, rfl, _, _, _, rfl⟩
    · rintro d its ρ M' Kx ⟨pre, suf, e1, e2, rfl, d0, d2, d3, rfl⟩ hk
      cases suf with
      | nil => cases e1
      | cons r suf =>
        cases e1
        have hsr : (sidesP pre).length + r.length ≤ 10000 := by
          rw [e2] at hl
          unfold sidesP at hl
          rw [List.flatMap_append, List.length_append, List.flatMap_cons, List.length_append, sidesR_len] at hl
          unfold sidesP
          omega
        unfold eRing
        walk_at "dn"
        rw [List.length_map]
        refine ⟨by omega, by omega, ?_⟩
        refine for_ind (fun its ρ M' => ∃ (n : Nat) (L : List (Pt × Pt)), its = rng L.length n ∧ L.length + n = r.length ∧ L = (sidesR r).take L.length ∧ M' = um M p (.lst (((sidesP pre) ++ L).map eSide)) ∧ ∃ d3, ρ = [d0, some (.ref p), some (.tup (r.map ePt)), d3]) ?_ ?_ ⟨r.length, [], rfl, by simp, by simp, by rw [List.append_nil], _, by rfl⟩
        · rintro d its ρ M' Kx2 ⟨n, L, hi, hL, hT, rfl, d3, rfl⟩ hk2
          cases n with
          | zero => cases hi
          | succ n =>
            rw [rng_c] at hi
            cases hi
            have hj : L.length < r.length := by omega
            walk_at "dn"
            have hg : ∀ {i : Nat} (hi : i < r.length) {R : PD} {M : MS}, R (ePt r[i]) M → itD (r.map ePt) (i : Int) R M := fun {i} hi {R M} h => by
              rw [q_it (x := ePt r[i]) (by rw [List.getElem?_map, List.getElem?_eq_getElem hi]; rfl)]
              exact h
            have hgt := sidesR_get hj
            have fin : ∀ q : Pt, q = r[(L.length + 1) % r.length]'(Nat.mod_lt _ (by omega)) → 0 + 1 + 1 ≤ sizeLine ∧ ∃ ds, um M p (.lst ((sidesP pre ++ L).map eSide)) p = some (MO.lst ds) ∧ ds.length < sizeLine ∧ Kx2 [d0, some (.ref p), some (.tup (r.map ePt)), some (.int L.length)] (um (um M p (.lst ((sidesP pre ++ L).map eSide))) p (.lst (ds ++ [.tup [ePt r[L.length], ePt q]]))) := fun q hq => by
              refine ⟨by decide, _, um_same, ?_, ?_⟩
              · rw [List.length_map, List.length_append, sizeLine_eq]; omega
              · rw [um_um]
                refine hk2 _ _ ⟨n, L ++ [(r[L.length], q)], by rw [List.length_append, List.length_singleton]; rfl, by rw [List.length_append, List.length_singleton]; omega, ?_, by rw [← List.append_assoc, List.map_append (l₁ := sidesP pre ++ L)]; rfl, _, rfl⟩
                rw [List.length_append, List.length_singleton, List.take_add_one, ← hT, hgt, hq]
                rfl
            rw [List.length_map]
            refine ⟨⟨_, rfl⟩, hg hj ?_⟩
            by_cases hlast : (L.length : Int) + 1 < r.length
            · rw [if_pos hlast]
              refine hg (i := L.length + 1) (by omega) ?_
              exact fin (r[L.length + 1]'(by omega)) (by simp only [Nat.mod_eq_of_lt (show L.length + 1 < r.length by omega)])
            · rw [if_neg hlast]
              refine hg (i := 0) (by omega) ?_
              exact fin (r[0]'(by omega)) (by simp only [show L.length + 1 = r.length by omega, Nat.mod_self])
        · rintro ρ M' ⟨n, L, hi, hL, hT, rfl, d3, rfl⟩
          cases n with
          | succ n => rw [rng_c] at hi; cases hi
          | zero =>
            have hT' : L = sidesR r := by rw [hT, List.take_of_length_le (by rw [sidesR_len]; omega)]
            subst hT'
            refine hk _ _ ⟨pre ++ [r], suf, rfl, by rw [e2, List.append_assoc]; rfl, ?_, _, _, _, rfl⟩
            unfold sidesP
            rw [List.flatMap_append, List.flatMap_cons, List.flatMap_nil, List.append_nil]
    · rintro ρ M' ⟨pre, suf, e1, e2, rfl, d0, d2, d3, rfl⟩
      have hS : suf = [] := by cases suf <;> first | rfl | cases e1
      subst hS
      rw [List.append_nil] at e2
      subst e2
      walk_at "dn"
      exact Rw.frz (M' := M) k (Le.um hp) um_same hp
  · exact h.elim

/-! k09: the law's own paths *)-/

def g__law_each : GH := fun F ws cs φ ds R E M => ∃ (P : List (List Pt)) (f : Pt → Pt), ds = [ePath P, .clo F ws cs] ∧ (P.length ≤ 10000 ∧ ∀ r, r ∈ P → r.length ≤ 10000) ∧ (∀ (p : Pt) (R : PD) (M' : MS), R (ePt (f p)) M' → φ [ePt p] R (fun _ _ => False) M') ∧ (R (ePath (P.map (·.map f))) M)
abbrev n__law_each : List Str := ["path", "turn", "found", "ring", "point"]
def tb__law_each (F : LFn) (ws : List V) (cs : List D) (φ : G) : DTS :=
  (dSeq (dSet 2 (dLstN dNil))
  (dSeq (dFor (dItems (dVar 0)) (.nm 3) (dExpr (dMt appD (dVar 2) (dCons (dCB tupD (dCons (dLc (dItems (dVar 3)) (.nm 4) dYes (dCallC F ws cs φ (dVar 1) (dCons (dVar 4) dNil)) [4]) dNil)) dNil))))
  (dRet (dCB tupD (dCons (dVar 2) dNil)))))
theorem l__law_each : ∀ F ws cs φ ds R E M, g__law_each F ws cs φ ds R E M → ds.length = 2 := by
  rintro F ws cs φ ds R E M ⟨_, _, rfl, -⟩; rfl
theorem u__law_each {F : LFn} {ws : List V} {cs : List D} {φ : G} {P : List (List Pt)} {f : Pt → Pt} {R : PD} {E : Ex → MS → Prop} {M : MS} (hn : P.length ≤ 10000 ∧ ∀ r, r ∈ P → r.length ≤ 10000) (hf : ∀ (p : Pt) (R : PD) (M' : MS), R (ePt (f p)) M' → φ [ePt p] R (fun _ _ => False) M') (k : R (ePath (P.map (·.map f))) M) : g__law_each F ws cs φ [ePath P, .clo F ws cs] R E M := ⟨_, _, rfl, hn, hf, k⟩
theorem h__law_each : HgH g__law_each tb__law_each n__law_each := by
  rintro F ws cs φ ds R E M ⟨P, f, rfl, hn, hf, k⟩
  unfold tb__law_each
  unfold ePath
  walk_at "dn"
  refine ⟨by decide, fun a ha => ?_⟩
  refine for_ind (fun its ρ M' => ∃ pre suf d3 d4, its = suf.map eRing ∧ P = pre ++ suf ∧ M' = um M a (.lst ((pre.map (·.map f)).map eRing)) ∧ ρ = [some (.tup (P.map eRing)), some (.clo F ws cs), some (.ref a), d3, d4]) ?_ ?_ ⟨[], P, _, _, rfl, rfl, rfl, rfl⟩
  · rintro d its ρ M' Kx ⟨pre, suf, d3, d4, e1, e2, rfl, rfl⟩ hk
    cases suf with
    | nil => cases e1
    | cons r suf =>
      cases e1
      have hr := hn.2 r (by rw [e2]; exact List.mem_append_right _ (.head _))
      have hl := congrArg List.length e2
      rw [List.length_append, List.length_cons] at hl
      have hp := hn.1
      walk_at "dn"
      refine ⟨⟨_, rfl⟩, ?_⟩
      unfold eRing
      try walk_at "dn"
      refine lc_mapG ePt (fun p => ePt (f p)) (fun p hp R q => ?_) (slz (by omega)) ?_
      · walk_at "dn"
        exact hf p R _ q
      · try walk_at "dn"
        refine ⟨by rw [List.length_map, List.length_map]; exact slt (by omega), ?_⟩
        refine hk _ _ ⟨pre ++ [r], suf, _, _, rfl, by rw [e2, List.append_assoc]; rfl, ?_, rfl⟩
        rw [List.map_append, List.map_append]
        congr 3
        show [D.tup (r.map fun p => ePt (f p))] = [eRing (r.map f)]
        unfold eRing
        rw [List.map_map]; rfl
  · rintro ρ M' ⟨pre, suf, d3, d4, e1, e2, rfl, rfl⟩
    have hS : suf = [] := by cases suf <;> first | rfl | cases e1
    subst hS
    rw [List.append_nil] at e2
    subst e2
    walk_at "dn"
    exact Rw.le k (Le.um ha)
theorem it_neg {ds : List D} {k : Nat} {x : D} {R : PD} {M : MS} (h0 : 0 < k) (h1 : k ≤ ds.length) (h : ds[ds.length - k]? = some x) (q : R x M) : itD ds (0 - (k : Int)) R M := by
  have e : atI ds (0 - (k : Int)) = some x := by
    unfold atI
    have : ixN ds.length (0 - (k : Int)) = some (ds.length - k) := by
      unfold ixN
      rw [if_neg (by omega), if_pos (by omega)]
      congr 1
      omega
    rw [this]
    exact h
  unfold itD
  rw [e]
  exact q
theorem rvR_get {r : List Pt} {k : Nat} (h0 : 0 < k) (h : k < r.length) : (rvR r)[k]? = r[r.length - k]? := by
  unfold rvR
  rw [List.getElem?_append_right (by rw [List.length_take]; omega), List.getElem?_reverse (by rw [List.length_take, List.length_drop]; omega), List.getElem?_drop]
  congr 1
  rw [List.length_drop, List.length_take]; omega
theorem rvR_len (r : List Pt) : (rvR r).length = r.length := by
  unfold rvR
  rw [List.length_append, List.length_reverse, List.length_take, List.length_drop]; omega
theorem rvR_0 {r : List Pt} (h : 0 < r.length) : (rvR r)[0]? = r[0]? := by
  cases r with
  | nil => cases h
  | cons a r => rfl
def g__law_back : G := fun ds R E M => ∃ (r : List Pt), ds = [eRing r] ∧ (r.length ≤ 10000) ∧ (R (eRing (rvR r)) M)
abbrev n__law_back : List Str := ["ring", "k"]
def tb__law_back : DTS :=
  (dRet (dCB tupD (dCons (dLc (dRng1 (dCons (dCB lenD (dCons (dVar 0) dNil)) dNil)) (.nm 1) dYes (dIx (dVar 0) (dOp subD (dC (.int 0)) (dVar 1))) [1]) dNil)))
theorem l__law_back : ∀ ds R E M, g__law_back ds R E M → ds.length = 1 := by
  rintro ds R E M ⟨_, rfl, -⟩; rfl
theorem u__law_back {r : List Pt} {R : PD} {E : Ex → MS → Prop} {M : MS} (hn : r.length ≤ 10000) (k : R (eRing (rvR r)) M) : g__law_back [eRing r] R E M := ⟨_, rfl, hn, k⟩
theorem h__law_back : Hg g__law_back tb__law_back n__law_back := by
  rintro ds R E M ⟨r, rfl, hn, k⟩
  unfold tb__law_back
  unfold eRing
  walk_at "dn"
  rw [List.length_map]
  refine ⟨by omega, by omega, ?_⟩
  refine lc_ind (fun its acc M' => M' = M ∧ ∃ (j n : Nat), its = rng (j : Nat) n ∧ j + n = r.length ∧ acc = ((rvR r).take j).map ePt) ?_ ?_ ⟨rfl, 0, r.length, rfl, Nat.zero_add _, rfl⟩
  · rintro d its acc M' Kx ⟨rfl, j, n, e1, e2, rfl⟩ hk
    cases n with
    | zero => cases e1
    | succ n =>
      rw [rng_c] at e1
      cases e1
      have hj : j < (rvR r).length := by rw [rvR_len]; omega
      have go : ∀ (R : PD), R (ePt (rvR r)[j]) M' → itD (r.map ePt) (0 - (j : Int)) R M' := fun R q => by
        by_cases c : j = 0
        · subst c
          refine it_at (x := ePt (rvR r)[0]) 0 rfl ?_ q
          rw [List.getElem?_map, ← rvR_0 (by omega), List.getElem?_eq_getElem hj]; rfl
        · refine it_neg (by omega) (by rw [List.length_map]; omega) ?_ q
          rw [List.length_map, List.getElem?_map, ← rvR_get (by omega) (by omega), List.getElem?_eq_getElem hj]; rfl
      walk_at "dn"
      refine go _ ⟨by rw [List.length_map, List.length_take]; exact slt (by omega), hk _ _ ⟨rfl, j + 1, n, rfl, by omega, ?_⟩⟩
      rw [List.take_add_one, List.getElem?_eq_getElem hj, List.map_append]; rfl
  · rintro acc M' ⟨rfl, j, n, e1, e2, rfl⟩
    cases n with
    | zero =>
      try walk_at "dn"
      rw [List.take_of_length_le (by rw [rvR_len]; omega)]
      exact Rw.of k
    | succ n => rw [rng_c] at e1; cases e1
/-! what is refused *)-/
abbrev n__law_refusal : List Str := ["e", "strange", "flags", "bases"]
def tb__law_refusal (xC : Str) (xa xd : Addr) : DTS :=
  (dSeq (dSet 1 (dIsX xa xd ((["ZeroError", "NoCell", "NoLayer", "NoName", "NoPaper", "NoRatio", "NoRow", "NoText"] : List Str).any (subX xC)) 0))
  (dSeq (dSet 2 (dLst (dCons (dIsX xa xd (subX xC "NoStep") 0) (dCons (dIsX xa xd (subX xC "NoSide") 0) (dCons (dIsX xa xd (subX xC "NoExact") 0) dNil)))))
  (dSeq (dSet 3 (dLst (dCons (dIsX xa xd (subX xC "LostError") 0) (dCons (dIsX xa xd (subX xC "LookupError") 0) (dCons (dIsX xa xd (subX xC "InkError") 0) (dCons (dIsX xa xd (subX xC "ValueError") 0) dNil))))))
  (dSeq (dIfS (dOr (dTru (dVar 1)) (dOr (dTst (dOp (eqD fun k => !k) (dMt cntD (dVar 2) (dCons (dC (.bl true)) dNil)) (dC (.int 1)))) (dTst (dOp (eqD fun k => !k) (dVar 3) (dOp addD (dOp mulD (dLst (dCons (dNotV (dIx (dVar 2) (dC (.int 2)))) dNil)) (dC (.int 2))) (dOp mulD (dLst (dCons (dIx (dVar 2) (dC (.int 2))) dNil)) (dC (.int 2)))))))) (dRet (dTup (dCons (dC (.str "odd")) dNil))) dNext)
  (dSeq (dIfS (dTru (dIx (dVar 2) (dC (.int 2)))) (dRet (dTup (dCons (dC (.str "exact")) (dCons (dFldX xa xd "side" (dVar 0)) dNil)))) dNext)
  (dRet (dIf (dTru (dIx (dVar 2) (dC (.int 0)))) (dTup (dCons (dC (.str "step")) (dCons (dFldX xa xd "number" (dVar 0)) dNil))) (dTup (dCons (dC (.str "side")) (dCons (dFldX xa xd "number" (dVar 0)) dNil))))))))))
section
theorem sS1 : subX "NoStep" "LostError" = true := by decide +kernel
theorem sS2 : subX "NoStep" "NoStep" = true := by decide +kernel
theorem sS3 : subX "NoStep" "NoSide" = false := by decide +kernel
theorem sS4 : subX "NoStep" "NoExact" = false := by decide +kernel
theorem sS5 : subX "NoStep" "LookupError" = true := by decide +kernel
theorem sS6 : subX "NoStep" "InkError" = false := by decide +kernel
theorem sS7 : subX "NoStep" "ValueError" = false := by decide +kernel
theorem sS8 : (["ZeroError", "NoCell", "NoLayer", "NoName", "NoPaper", "NoRatio", "NoRow", "NoText"] : List Str).any (subX "NoStep") = false := by decide +kernel
theorem sD1 : subX "NoSide" "LostError" = true := by decide +kernel
theorem sD2 : subX "NoSide" "NoStep" = false := by decide +kernel
theorem sD3 : subX "NoSide" "NoSide" = true := by decide +kernel
theorem sD4 : subX "NoSide" "NoExact" = false := by decide +kernel
theorem sD5 : subX "NoSide" "LookupError" = true := by decide +kernel
theorem sD6 : subX "NoSide" "InkError" = false := by decide +kernel
theorem sD7 : subX "NoSide" "ValueError" = false := by decide +kernel
theorem sD8 : (["ZeroError", "NoCell", "NoLayer", "NoName", "NoPaper", "NoRatio", "NoRow", "NoText"] : List Str).any (subX "NoSide") = false := by decide +kernel
theorem sE1 : subX "NoExact" "LostError" = false := by decide +kernel
theorem sE2 : subX "NoExact" "NoStep" = false := by decide +kernel
theorem sE3 : subX "NoExact" "NoSide" = false := by decide +kernel
theorem sE4 : subX "NoExact" "NoExact" = true := by decide +kernel
theorem sE5 : subX "NoExact" "LookupError" = false := by decide +kernel
theorem sE6 : subX "NoExact" "InkError" = true := by decide +kernel
theorem sE7 : subX "NoExact" "ValueError" = true := by decide +kernel
theorem sE8 : (["ZeroError", "NoCell", "NoLayer", "NoName", "NoPaper", "NoRatio", "NoRow", "NoText"] : List Str).any (subX "NoExact") = false := by decide +kernel
end
theorem ok_bl4 (a b c d : Bool) : okP (.lst [.bl a, .bl b, .bl c, .bl d]) := okP_of rfl (by simp [pd, pds, PyData.canLay0, PyData.canLayAll0]) (by simp [pd, pds, PyData.depth, PyData.depthAll])
theorem eq_bl4 {a b c d : Bool} {R : PD} {M : MS} {f : Bool → Bool} (q : R (.bl (f true)) M) : eqD f (.lst [.bl a, .bl b, .bl c, .bl d]) (.lst [.bl a, .bl b, .bl c, .bl d]) R M := by
  refine eqD_gen (ok_bl4 ..) (ok_bl4 ..) ?_
  rw [show PyData.eqv (pd (.lst [.bl a, .bl b, .bl c, .bl d])) (pd (.lst [.bl a, .bl b, .bl c, .bl d])) = true by simp [pd, pds, PyData.eqv, PyData.eqvAll]]
  exact q
theorem mul_two {b : Bool} {R : PD} {M : MS} (q : R (.lst [.bl b, .bl b]) M) : mulD (.lst [.bl b]) (.int 2) R M := ⟨[.bl b], rfl, by decide, by decide, by show (2 : Nat) ≤ sizeLine; decide, q⟩
theorem count3 {a b c : Bool} {M : MS} {R : List Bool → Prop} (q : R [a, b, c]) : ∃ bs, lsBls M (.lst [.bl a, .bl b, .bl c]) bs ∧ R bs := ⟨[a, b, c], rfl, q⟩
theorem ref_step {d : D} {xa xd : Addr} {M : MS} {R : PD} (h : M xd = some (.xd [("number", d)])) (k : R (.tup [.str "step", d]) M) : tb__law_refusal "NoStep" xa xd (ends R fun _ _ => False) (startD n__law_refusal [.ref xa]) M := by
  unfold tb__law_refusal
  walk_at "dn"
  simp only [sS1, sS2, sS3, sS4, sS5, sS6, sS7, sS8]
  try walk_at "dn"
  refine ⟨⟨_, h⟩, ⟨_, h⟩, ⟨_, h⟩, ⟨_, h⟩, by decide, ⟨_, h⟩, ⟨_, h⟩, ⟨_, h⟩, ⟨_, h⟩, by decide, [true, false, false], rfl, ?_⟩
  rw [if_neg (by decide)]
  refine ⟨by decide, mul_two ⟨by decide, mul_two ?_⟩⟩
  try walk_at "dn"
  refine ⟨by decide, eq_bl4 ?_⟩
  try walk_at "dn"
  exact ⟨_, h, _, List.lookup_cons_self, by decide, Rw.of k⟩
theorem ref_side {d : D} {xa xd : Addr} {M : MS} {R : PD} (h : M xd = some (.xd [("number", d)])) (k : R (.tup [.str "side", d]) M) : tb__law_refusal "NoSide" xa xd (ends R fun _ _ => False) (startD n__law_refusal [.ref xa]) M := by
  unfold tb__law_refusal
  walk_at "dn"
  simp only [sD1, sD2, sD3, sD4, sD5, sD6, sD7, sD8]
  try walk_at "dn"
  refine ⟨⟨_, h⟩, ⟨_, h⟩, ⟨_, h⟩, ⟨_, h⟩, by decide, ⟨_, h⟩, ⟨_, h⟩, ⟨_, h⟩, ⟨_, h⟩, by decide, [false, true, false], rfl, ?_⟩
  rw [if_neg (by decide)]
  refine ⟨by decide, mul_two ⟨by decide, mul_two ?_⟩⟩
  try walk_at "dn"
  refine ⟨by decide, eq_bl4 ?_⟩
  try walk_at "dn"
  exact ⟨_, h, _, List.lookup_cons_self, by decide, Rw.of k⟩
theorem ref_exact {d : D} {xa xd : Addr} {M : MS} {R : PD} (h : M xd = some (.xd [("side", d)])) (k : R (.tup [.str "exact", d]) M) : tb__law_refusal "NoExact" xa xd (ends R fun _ _ => False) (startD n__law_refusal [.ref xa]) M := by
  unfold tb__law_refusal
  walk_at "dn"
  simp only [sE1, sE2, sE3, sE4, sE5, sE6, sE7, sE8]
  try walk_at "dn"
  refine ⟨⟨_, h⟩, ⟨_, h⟩, ⟨_, h⟩, ⟨_, h⟩, by decide, ⟨_, h⟩, ⟨_, h⟩, ⟨_, h⟩, ⟨_, h⟩, by decide, [false, false, true], rfl, ?_⟩
  rw [if_neg (by decide)]
  refine ⟨by decide, mul_two ⟨by decide, mul_two ?_⟩⟩
  try walk_at "dn"
  refine ⟨by decide, eq_bl4 ?_⟩
  try walk_at "dn"
  exact ⟨_, h, _, List.lookup_cons_self, by decide, Rw.of k⟩
def begR (P : List (List Pt)) (i j : Int) : D := match ringAt P i with
  | none => .tup [.str "step", .int i]
  | some r => if 0 ≤ j ∧ j.toNat < r.length then .tup [.str "told", ePath (setR P i.toNat (rotR r j.toNat))] else .tup [.str "step", .int j]
def withR (P : List (List Pt)) (n : Int) : D := match sideAt P n with
  | none => .tup [.str "side", .int n]
  | some (a, b) => if evB a b = true then .tup [.str "told", ePath (putMid P n.toNat (midP a b))] else .tup [.str "exact", eSide (a, b)]
theorem cS : (subX "NoStep" "LostError" || (subX "NoStep" "InkError" || false)) = true := by decide +kernel
theorem cD : (subX "NoSide" "LostError" || (subX "NoSide" "InkError" || false)) = true := by decide +kernel
theorem cE : (subX "NoExact" "LostError" || (subX "NoExact" "InkError" || false)) = true := by decide +kernel
theorem mS {α : Type} {a b c : α} : a ∈ [a, b, c] ∧ b ∈ [a, b, c] ∧ c ∈ [a, b, c] := by simp
def g__law_asked : G := fun ds R E M => ∃ (d w1 w2 : D) (P : List (List Pt)), ds = [d, ePath P, w1, w2] ∧ (P.length ≤ 10000) ∧ (P.flatten.length ≤ 10000) ∧ (∀ r, r ∈ P → r.length ≤ 10000) ∧ ((∃ i j : Int, d = .int 0 ∧ w1 = .int i ∧ w2 = .int j ∧ R (begR P i j) M) ∨ (∃ n : Int, d = .int 1 ∧ w1 = .int n ∧ R (withR P n) M)) ∧ (True)
abbrev n__law_asked : List Str := ["way", "path", "one", "other", "found", "e"]
def tb__law_asked : DTS :=
  (dSeq (dSet 4 (dTup (dCons (dC (.str "odd")) dNil)))
  (dSeq (dTry 5 excD (fun C => subX C "LostError" || (subX C "InkError" || (false))) (dSet 4 (dTup (dCons (dC (.str "told")) (dCons (dIf (dTst (dOp (eqD id) (dVar 0) (dC (.int 0)))) (dCall g_begun_at (dCons (dVar 1) (dCons (dVar 2) (dCons (dVar 3) dNil)))) (dCall g_with_point (dCons (dVar 1) (dCons (dVar 2) dNil)))) dNil)))) (fun xC xa xd => (dSet 4 (dCallX (gX (tb__law_refusal xC xa xd) n__law_refusal xa) (dCons (dVar 5) dNil)))))
  (dRet (dVar 4))))
theorem l__law_asked : ∀ ds R E M, g__law_asked ds R E M → ds.length = 4 := by
  rintro ds R E M ⟨_, _, _, _, rfl, -⟩; rfl
theorem u__law_asked {d w1 w2 : D} {P : List (List Pt)} {R : PD} {E : Ex → MS → Prop} {M : MS} (hl : P.length ≤ 10000) (hf : P.flatten.length ≤ 10000) (hr : ∀ r, r ∈ P → r.length ≤ 10000) (h : (∃ i j : Int, d = .int 0 ∧ w1 = .int i ∧ w2 = .int j ∧ R (begR P i j) M) ∨ (∃ n : Int, d = .int 1 ∧ w1 = .int n ∧ R (withR P n) M)) (k : True) : g__law_asked [d, ePath P, w1, w2] R E M := ⟨_, _, _, _, rfl, hl, hf, hr, h, k⟩
theorem h__law_asked : Hg g__law_asked tb__law_asked n__law_asked := by
  rintro ds R E M ⟨d, w1, w2, P, rfl, hl, hf, hr, h, k⟩
  unfold tb__law_asked
  rcases h with ⟨i, j, rfl, rfl, rfl, h⟩ | ⟨n, rfl, rfl, h⟩
  · walk_at "dn"
    refine ⟨by decide, ?_⟩
    refine u_begun_at hl hr ?_
    unfold begOk
    unfold begR at h
    split
    · rename_i e
      rw [e] at h
      refine ⟨by unfold excD; exact mS.1, ?_⟩
      rw [if_pos cS]
      intro e dx he hd ne
      exact ref_step um_same (Rw.le h (Le.um hd))
    · rename_i r e
      rw [e] at h
      replace h : R (if 0 ≤ j ∧ j.toNat < r.length then .tup [.str "told", ePath (setR P i.toNat (rotR r j.toNat))] else .tup [.str "step", .int j]) M := h
      split
      · rename_i c
        rw [if_pos c] at h
        exact ⟨by decide, Rw.of h⟩
      · rename_i c
        rw [if_neg c] at h
        refine ⟨by unfold excD; exact mS.1, ?_⟩
        rw [if_pos cS]
        intro e dx he hd ne
        exact ref_step um_same (Rw.le h (Le.um hd))
  · walk_at "dn"
    refine ⟨by decide, ?_⟩
    refine u_with_point hl hf ?_
    unfold midOk
    unfold withR at h
    split
    · rename_i e
      rw [e] at h
      refine ⟨by unfold excD; exact mS.2.1, ?_⟩
      rw [if_pos cD]
      intro e dx he hd ne
      exact ref_side um_same (Rw.le h (Le.um hd))
    · rename_i a b e
      rw [e] at h
      replace h : R (if evB a b = true then .tup [.str "told", ePath (putMid P n.toNat (midP a b))] else .tup [.str "exact", eSide (a, b)]) M := h
      split
      · rename_i c
        rw [if_pos c] at h
        exact ⟨by decide, Rw.of h⟩
      · rename_i c
        rw [if_neg c] at h
        refine ⟨by unfold excD; exact mS.2.2, ?_⟩
        rw [if_pos cE]
        intro e dx he hd ne
        exact ref_exact um_same (Rw.le h (Le.um hd))
theorem rotR_get {r : List Pt} {j k : Nat} (hj : j < r.length) (hk : k < r.length) : (rotR r j)[k]? = r[(j + k) % r.length]? := by
  unfold rotR
  by_cases c : j + k < r.length
  · rw [List.getElem?_append_left (by rw [List.length_drop]; omega), List.getElem?_drop, Nat.mod_eq_of_lt c]
  · rw [List.getElem?_append_right (by rw [List.length_drop]; omega), List.length_drop, List.getElem?_take_of_lt (by omega)]
    congr 1
    rw [Nat.mod_eq_sub_mod (by omega), Nat.mod_eq_of_lt (by omega)]
    omega
theorem rotR_len {r : List Pt} {j : Nat} (hj : j < r.length) : (rotR r j).length = r.length := by
  unfold rotR
  rw [List.length_append, List.length_drop, List.length_take]; omega
theorem setR_get {P : List (List Pt)} {i k : Nat} {r : List Pt} (hi : i < P.length) : (setR P i r)[k]? = if k = i then some r else P[k]? := by
  unfold setR
  by_cases c : k < i
  · rw [if_neg (by omega), List.getElem?_append_left (by rw [List.length_take]; omega), List.getElem?_take_of_lt c]
  · rw [List.getElem?_append_right (by rw [List.length_take]; omega), List.length_take, show k - min i P.length = k - i by omega]
    by_cases d : k = i
    · rw [if_pos d, show k - i = 0 by omega]; rfl
    · rw [if_neg d, show k - i = (k - i - 1) + 1 by omega, List.getElem?_cons_succ, List.getElem?_drop]
      congr 1; omega
theorem setR_len {P : List (List Pt)} {i : Nat} {r : List Pt} (hi : i < P.length) : (setR P i r).length = P.length := by
  unfold setR
  rw [List.length_append, List.length_cons, List.length_take, List.length_drop]; omega
def g__law_begun : G := fun ds R E M => ∃ (P : List (List Pt)) (i j : Int), ds = [ePath P, .int i, .int j] ∧ (P.length ≤ 10000) ∧ (∀ r, r ∈ P → r.length ≤ 10000) ∧ (R (begR P i j) M)
abbrev n__law_begun : List Str := ["path", "one", "other", "ring", "many", "own", "k"]
def tb__law_begun : DTS :=
  (dSeq (dIfS (dInRng (fun k => !k) (dVar 1) (dCB lenD (dCons (dVar 0) dNil))) (dRet (dTup (dCons (dC (.str "step")) (dCons (dVar 1) dNil)))) dNext)
  (dSeq (dIfS (dInRng (fun k => !k) (dVar 2) (dCB lenD (dCons (dIx (dVar 0) (dVar 1)) dNil))) (dRet (dTup (dCons (dC (.str "step")) (dCons (dVar 2) dNil)))) dNext)
  (dSeq (dSet 3 (dIx (dVar 0) (dVar 1)))
  (dSeq (dSet 4 (dCB lenD (dCons (dVar 3) dNil)))
  (dSeq (dSet 5 (dCB tupD (dCons (dLc (dRng1 (dCons (dVar 4) dNil)) (.nm 6) dYes (dIx (dVar 3) (dOp modD (dOp addD (dVar 2) (dVar 6)) (dVar 4))) [6]) dNil)))
  (dRet (dTup (dCons (dC (.str "told")) (dCons (dCB tupD (dCons (dLc (dRng1 (dCons (dCB lenD (dCons (dVar 0) dNil)) dNil)) (.nm 6) dYes (dIf (dTst (dOp (eqD id) (dVar 6) (dVar 1))) (dVar 5) (dIx (dVar 0) (dVar 6))) [6]) dNil)) dNil)))))))))
theorem l__law_begun : ∀ ds R E M, g__law_begun ds R E M → ds.length = 3 := by
  rintro ds R E M ⟨_, _, _, rfl, -⟩; rfl
theorem u__law_begun {P : List (List Pt)} {i j : Int} {R : PD} {E : Ex → MS → Prop} {M : MS} (hl : P.length ≤ 10000) (hr : ∀ r, r ∈ P → r.length ≤ 10000) (k : R (begR P i j) M) : g__law_begun [ePath P, .int i, .int j] R E M := ⟨_, _, _, rfl, hl, hr, k⟩
theorem h__law_begun : Hg g__law_begun tb__law_begun n__law_begun := by
  rintro ds R E M ⟨P, i, j, rfl, hl, hr, k⟩
  unfold tb__law_begun
  unfold begR at k
  unfold ePath
  walk_at "dn"
  rw [List.length_map]
  refine ⟨_, rfl, _, rfl, ?_⟩
  by_cases c : 0 ≤ i ∧ i < P.length
  · obtain ⟨n, r, rfl, hg, e⟩ := ringAt_in c.1 c.2
    rw [e] at k
    replace k : R (if 0 ≤ j ∧ j.toNat < r.length then .tup [.str "told", ePath (setR P n (rotR r j.toNat))] else .tup [.str "step", .int j]) M := k
    have hn := (List.getElem?_eq_some_iff.mp hg).1
    have hrl := hr r (List.mem_of_getElem? hg)
    rw [if_neg (by simp; omega)]
    refine it_P hg ?_
    unfold eRing
    rw [q_lenT, List.length_map]
    refine ⟨_, rfl, _, rfl, ?_⟩
    by_cases d : 0 ≤ j ∧ j < r.length
    · obtain ⟨m, rfl⟩ : ∃ m : Nat, j = m := ⟨j.toNat, by omega⟩
      rw [if_pos ⟨d.1, by omega⟩, Int.toNat_natCast] at k
      have hm : m < r.length := by omega
      rw [if_neg (by simp; omega)]
      refine it_P hg ?_
      unfold eRing
      rw [q_lenT, List.length_map]
      refine ⟨by omega, by omega, ?_⟩
      refine lc_ind (fun its acc M' => M' = M ∧ ∃ (k t : Nat), its = rng (k : Nat) t ∧ k + t = r.length ∧ acc = ((rotR r m).take k).map ePt) ?_ ?_ ⟨rfl, 0, r.length, rfl, Nat.zero_add _, rfl⟩
      · rintro d its acc M' Kx ⟨rfl, k, t, e1, e2, rfl⟩ hk
        cases t with
        | zero => cases e1
        | succ t =>
          rw [rng_c] at e1
          cases e1
          have hk1 : k < (rotR r m).length := by rw [rotR_len hm]; omega
          walk_at "dn"
          refine ⟨by omega, ?_⟩
          refine it_at (x := ePt (rotR r m)[k]) ((m + k) % r.length) (by rw [Int.fmod_eq_emod_of_nonneg _ (by omega), ← Int.natCast_add]; exact (Int.natCast_emod _ _).symm) ?_ ?_
          · rw [List.getElem?_map, ← rotR_get hm (by omega), List.getElem?_eq_getElem hk1]; rfl
          refine ⟨by rw [List.length_map, List.length_take]; exact slt (by omega), hk _ _ ⟨rfl, k + 1, t, rfl, by omega, ?_⟩⟩
          rw [List.take_add_one, List.getElem?_eq_getElem hk1, List.map_append]; rfl
      · rintro acc M' ⟨rfl, k2, t, e1, e2, rfl⟩
        cases t with
        | zero =>
          rw [List.take_of_length_le (by rw [rotR_len hm]; omega)]
          try walk_at "dn"
          refine ⟨by omega, by omega, ?_⟩
          refine lc_ind (fun its acc M2 => M2 = M' ∧ ∃ (k t : Nat), its = rng (k : Nat) t ∧ k + t = P.length ∧ acc = ((setR P n (rotR r m)).take k).map eRing) ?_ ?_ ⟨rfl, 0, P.length, rfl, Nat.zero_add _, rfl⟩
          · rintro d its acc M2 Kx ⟨rfl, k, t, e1, e2, rfl⟩ hk
            cases t with
            | zero => cases e1
            | succ t =>
              rw [rng_c] at e1
              cases e1
              have hs := setR_get (k := k) (r := rotR r m) hn
              have hk1 : k < (setR P n (rotR r m)).length := by rw [setR_len hn]; omega
              have nx : ∀ x, (setR P n (rotR r m))[k]? = some x → (List.map eRing (List.take k (setR P n (rotR r m)))).length < sizeLine ∧ Kx (List.map eRing (List.take k (setR P n (rotR r m))) ++ [eRing x]) M2 := fun x hx => by
                refine ⟨by rw [List.length_map, List.length_take]; exact slt (by omega), hk _ _ ⟨rfl, k + 1, t, rfl, by omega, ?_⟩⟩
                rw [List.take_add_one, hx, List.map_append]; rfl
              walk_at "dn"
              by_cases ce : k = n
              · subst ce
                rw [if_pos rfl]
                rw [if_pos rfl] at hs
                exact nx _ hs
              · rw [if_neg (by omega)]
                rw [if_neg ce, List.getElem?_eq_getElem (show k < P.length by omega)] at hs
                refine it_P (List.getElem?_eq_getElem (show k < P.length by omega)) ?_
                exact nx _ hs
          · rintro acc M2 ⟨rfl, k2, t, e1, e2, rfl⟩
            cases t with
            | zero =>
              rw [List.take_of_length_le (by rw [setR_len hn]; omega)]
              try walk_at "dn"
              exact ⟨by decide, Rw.of k⟩
            | succ t => rw [rng_c] at e1; cases e1
        | succ t => rw [rng_c] at e1; cases e1
    · rw [if_neg (by omega)] at k
      rw [if_pos (by simp; omega)]
      exact ⟨by decide, Rw.of k⟩
  · rw [ringAt_out (by omega)] at k
    rw [if_pos (by simp; omega)]
    exact ⟨by decide, Rw.of k⟩

/-! k09: the middle put in by going round *)-/
theorem Le.um' {M M' : MS} {a : Addr} {o : MO} (h : Le M M') (na : M a = none) : Le M (DL.um M' a o) := fun x u hx => by
  have : x ≠ a := fun e => by rw [e, na] at hx; cases hx
  rw [DL.um_ne this]
  exact h x u hx
def insR (r : List Pt) (t n : Nat) (m : Pt) : List Pt := if t ≤ n ∧ n < t + r.length then r.take (n - t + 1) ++ m :: r.drop (n - t + 1) else r
theorem insR_snoc (u : List Pt) (x : Pt) (t n : Nat) (m : Pt) : insR (u ++ [x]) t n m = insR u t n m ++ [x] ++ (if t + u.length = n then [m] else []) := by
  unfold insR
  rw [List.length_append, List.length_singleton]
  by_cases c : t ≤ n ∧ n < t + u.length
  · rw [if_pos ⟨c.1, by omega⟩, if_pos c, if_neg (by omega), List.take_append_of_le_length (by omega), List.drop_append_of_le_length (by omega)]
    simp
  · rw [if_neg c]
    by_cases d : t + u.length = n
    · rw [if_pos ⟨by omega, by omega⟩, if_pos d, List.take_of_length_le (by rw [List.length_append, List.length_singleton]; omega), List.drop_of_length_le (by rw [List.length_append, List.length_singleton]; omega)]
    · rw [if_neg (by omega), if_neg d, List.append_nil]
def insP : List (List Pt) → Nat → Nat → Pt → List (List Pt)
  | [], _, _, _ => []
  | r :: P, t, n, m => insR r t n m :: insP P (t + r.length) n m
theorem insP_app (m : Pt) (n : Nat) : ∀ (A B : List (List Pt)) (t : Nat), insP (A ++ B) t n m = insP A t n m ++ insP B (t + A.flatten.length) n m
  | [], B, t => by simp [insP]
  | r :: A, B, t => by
    rw [List.cons_append, insP, insP, insP_app m n A B, List.flatten_cons, List.length_append, Nat.add_assoc]; rfl
theorem insP_lt (m : Pt) (n : Nat) : ∀ (P : List (List Pt)) (t : Nat), n < t → insP P t n m = P
  | [], _, _ => rfl
  | r :: P, t, h => by
    rw [insP, insP_lt m n P _ (by omega)]
    unfold insR
    rw [if_neg (by omega)]
theorem insP_eq (m : Pt) (n : Nat) : ∀ (P : List (List Pt)) (t : Nat), t ≤ n → insP P t n m = putMid P (n - t) m
  | [], _, _ => rfl
  | r :: P, t, h => by
    rw [insP]
    show _ = (if _ then _ else _)
    unfold insR
    by_cases c : n < t + r.length
    · rw [if_pos ⟨h, c⟩, if_pos (by omega), insP_lt m n P _ c]
    · rw [if_neg (by omega), if_neg (by omega), insP_eq m n P _ (by omega)]
      congr 2
      omega
theorem insP_len (m : Pt) (n : Nat) : ∀ (P : List (List Pt)) (t : Nat), (insP P t n m).length = P.length
  | [], _ => rfl
  | r :: P, t => by rw [insP, List.length_cons, List.length_cons, insP_len m n P]
theorem insR_len (r : List Pt) (t n : Nat) (m : Pt) : (insR r t n m).length ≤ r.length + 1 := by
  unfold insR
  split
  · rw [List.length_append, List.length_cons, List.length_take, List.length_drop]; omega
  · omega


def g__law_with : G := fun ds R E M => ∃ (P : List (List Pt)) (n : Int), ds = [ePath P, .int n] ∧ (P.length ≤ 10000) ∧ (P.flatten.length ≤ 10000) ∧ (R (withR P n) M)
abbrev n__law_with : List Str := ["path", "number", "sides", "middle", "ring", "found", "turn", "own", "point", "ax", "ay", "bx", "by"]
def tb__law_with_b2 : DTS :=
  (dSeq (dExpr (dMt appD (dVar 7) (dCons (dVar 8) dNil)))
  (dSeq (dIfS (dTst (dOp (eqD id) (dVar 6) (dVar 1))) (dExpr (dMt appD (dVar 7) (dCons (dVar 3) dNil))) dNext)
  (dSet 6 (dOp addD (dVar 6) (dC (.int 1))))))
def tb__law_with_b1_p (t_b2 : DTS) : DTS :=
  (dSeq (dSet 7 (dLstN dNil))
  (dSeq (dFor (dItems (dVar 4)) (.nm 8) t_b2)
  (dExpr (dMt appD (dVar 5) (dCons (dCB tupD (dCons (dVar 7) dNil)) dNil)))))
def tb__law_with_b1 : DTS := tb__law_with_b1_p tb__law_with_b2
def tb__law_with_c5_p (t_b1 : DTS) : DTS :=
  (dSeq (dPar 5 6 (dCons (dLstN dNil) (dCons (dC (.int 0)) dNil)))
  (dSeq (dFor (dItems (dVar 0)) (.nm 4) t_b1)
  (dRet (dTup (dCons (dC (.str "told")) (dCons (dCB tupD (dCons (dVar 5) dNil)) dNil))))))
def tb__law_with_c5 : DTS := tb__law_with_c5_p tb__law_with_b1
def tb__law_with_p (t_c5 : DTS) : DTS :=
  (dSeq (dSet 2 (dCall g__law_sides (dCons (dVar 0) dNil)))
  (dSeq (dIfS (dInRng (fun k => !k) (dVar 1) (dCB lenD (dCons (dVar 2) dNil))) (dRet (dTup (dCons (dC (.str "side")) (dCons (dVar 1) dNil)))) dNext)
  (dSeq (dAsg (.tp [(.tp [(.nm 9), (.nm 10)]), (.tp [(.nm 11), (.nm 12)])]) (dIx (dVar 2) (dVar 1)))
  (dSeq (dIfS (dOr (dTst (dOp (eqD fun k => !k) (dOp modD (dOp subD (dVar 9) (dVar 11)) (dC (.int 2))) (dC (.int 0)))) (dTst (dOp (eqD fun k => !k) (dOp modD (dOp subD (dVar 10) (dVar 12)) (dC (.int 2))) (dC (.int 0))))) (dRet (dTup (dCons (dC (.str "exact")) (dCons (dIx (dVar 2) (dVar 1)) dNil)))) dNext)
  (dSeq (dSet 3 (dTup (dCons (dOp addD (dVar 9) (dOp fdivD (dOp subD (dVar 11) (dVar 9)) (dC (.int 2)))) (dCons (dOp addD (dVar 10) (dOp fdivD (dOp subD (dVar 12) (dVar 10)) (dC (.int 2)))) dNil))))
  t_c5)))))
def tb__law_with : DTS := tb__law_with_p tb__law_with_c5
theorem l__law_with : ∀ ds R E M, g__law_with ds R E M → ds.length = 2 := by
  rintro ds R E M ⟨_, _, rfl, -⟩; rfl
theorem u__law_with {P : List (List Pt)} {n : Int} {R : PD} {E : Ex → MS → Prop} {M : MS} (hl : P.length ≤ 10000) (hf : P.flatten.length ≤ 10000) (k : R (withR P n) M) : g__law_with [ePath P, .int n] R E M := ⟨_, _, rfl, hl, hf, k⟩
theorem lw_b2 {m : Pt} {n t : Nat} {u : List Pt} {x : Pt} {q : Addr} {De : DEnds} {M : MS} {d0 d2 d4 d5 d9 d10 d11 d12 : Option D} (hM : M q = some (.lst ((insR u t n m).map ePt))) (hu : u.length ≤ 10000)
    (k : ∀ M', M' = um M q (.lst ((insR (u ++ [x]) t n m).map ePt)) → De.nx [d0, some (.int n), d2, some (ePt m), d4, d5, some (.int ((t + (u ++ [x]).length : Nat) : Int)), some (.ref q), some (ePt x), d9, d10, d11, d12] M') :
    tb__law_with_b2 De [d0, some (.int n), d2, some (ePt m), d4, d5, some (.int ((t + u.length : Nat) : Int)), some (.ref q), some (ePt x), d9, d10, d11, d12] M := by
  have hs := insR_snoc u x t n m
  have hlen := insR_len u t n m
  unfold tb__law_with_b2
  walk_at "dn"
  refine ⟨⟨_, hM⟩, _, hM, by rw [List.length_map]; exact slt (by omega), ?_⟩
  have e : ((t + u.length : Nat) : Int) + 1 = ((t + (u ++ [x]).length : Nat) : Int) := by rw [List.length_append, List.length_singleton]; omega
  by_cases c : t + u.length = n
  · rw [if_pos c] at hs
    rw [if_pos (by omega)]
    refine ⟨⟨_, rfl⟩, by rw [List.length_append, List.length_map]; exact slt (show _ + 1 ≤ 100000 by omega), ?_⟩
    rw [e]
    refine k _ ?_
    rw [hs, List.map_append, List.map_append]; rfl
  · rw [if_neg c, List.append_nil] at hs
    rw [if_neg (by omega), e]
    refine k _ ?_
    rw [hs, List.map_append]; rfl
theorem lw_b1 {m : Pt} {n t : Nat} {A : List (List Pt)} {r : List Pt} {a : Addr} {De : DEnds} {M : MS} {d0 d2 d7 d8 d9 d10 d11 d12 : Option D} (hM : M a = some (.lst ((insP A 0 n m).map eRing))) (ht : t = A.flatten.length) (hr : r.length ≤ 10000) (hA : A.length ≤ 10000)
    (k : ∀ q o d8, M q = none → De.nx [d0, some (.int n), d2, some (ePt m), some (eRing r), some (.ref a), some (.int (((A ++ [r]).flatten.length : Nat) : Int)), some (.ref q), d8, d9, d10, d11, d12] (um (um M q o) a (.lst ((insP (A ++ [r]) 0 n m).map eRing)))) :
    tb__law_with_b1 De [d0, some (.int n), d2, some (ePt m), some (eRing r), some (.ref a), some (.int (t : Int)), d7, d8, d9, d10, d11, d12] M := by
  have stp := fun (De : DEnds) (M : MS) (q : Addr) (u : List Pt) (x : Pt) hM hu => lw_b2 (m := m) (n := n) (t := t) (u := u) (x := x) (q := q) (De := De) (M := M) (d0 := d0) (d2 := d2) (d4 := some (eRing r)) (d5 := some (.ref a)) (d9 := d9) (d10 := d10) (d11 := d11) (d12 := d12) hM hu
  unfold tb__law_with_b1
  generalize tb__law_with_b2 = tc at stp ⊢
  unfold tb__law_with_b1_p
  unfold eRing at stp ⊢
  walk_at "dn"
  refine ⟨by decide, fun q hq => ?_⟩
  have hqa : q ≠ a := fun e => by rw [e, hM] at hq; cases hq
  try walk_at "dn"
  refine for_ind (fun its ρ M' => ∃ u v d8, its = v.map ePt ∧ r = u ++ v ∧ M' = um M q (.lst ((insR u t n m).map ePt)) ∧ ρ = [d0, some (.int n), d2, some (ePt m), some (.tup (r.map ePt)), some (.ref a), some (.int ((t + u.length : Nat) : Int)), some (.ref q), d8, d9, d10, d11, d12]) ?_ ?_ ⟨[], r, _, rfl, rfl, ?_, rfl⟩
  · rintro d its ρ M' Kx ⟨u, v, d8, e1, e2, rfl, rfl⟩ hk
    cases v with
    | nil => cases e1
    | cons x v =>
      cases e1
      have hl := congrArg List.length e2
      rw [List.length_append, List.length_cons] at hl
      walk_at "dn"
      refine stp _ _ q u x um_same (by omega) fun M2 e => ?_
      rw [um_um] at e
      exact hk _ _ ⟨u ++ [x], v, _, rfl, by rw [e2, List.append_assoc]; rfl, e, rfl⟩
  · rintro ρ M' ⟨u, v, d8, e1, e2, rfl, rfl⟩
    have hS : v = [] := by cases v <;> first | rfl | cases e1
    subst hS
    rw [List.append_nil] at e2
    subst e2
    walk_at "dn"
    have hMa : um M q (.lst ((insR r t n m).map ePt)) a = some (.lst ((insP A 0 n m).map eRing)) := by rw [um_ne hqa.symm]; exact hM
    refine ⟨⟨_, hMa⟩, _, hMa, by rw [List.length_map, insP_len]; exact slt (by omega), ?_⟩
    have q1 := k q (.lst ((insR r t n m).map ePt)) d8 hq
    rw [insP_app, List.map_append, show (A ++ [r]).flatten.length = t + r.length by rw [List.flatten_append, List.length_append, ht]; simp] at q1
    simp only [insP, List.map_cons, List.map_nil, Nat.zero_add, ← ht] at q1
    exact q1
  · unfold insR
    rw [if_neg (by simp)]; rfl
theorem lw_c5 {P : List (List Pt)} {m : Pt} {n : Nat} {R : PD} {E : Ex → MS → Prop} {M : MS} {d2 d4 d5 d6 d7 d8 d9 d10 d11 d12 : Option D} (hl : P.length ≤ 10000) (hf : P.flatten.length ≤ 10000) (k : R (.tup [.str "told", ePath (putMid P n m)]) M) :
    tb__law_with_c5 (ends R E) [some (ePath P), some (.int n), d2, some (ePt m), d4, d5, d6, d7, d8, d9, d10, d11, d12] M := by
  have stp := fun (De : DEnds) (M : MS) (a : Addr) (t : Nat) (A : List (List Pt)) (r : List Pt) d7 d8 hM ht hr hA => lw_b1 (m := m) (n := n) (t := t) (A := A) (r := r) (a := a) (De := De) (M := M) (d0 := some (ePath P)) (d2 := d2) (d7 := d7) (d8 := d8) (d9 := d9) (d10 := d10) (d11 := d11) (d12 := d12) hM ht hr hA
  unfold tb__law_with_c5
  generalize tb__law_with_b1 = tc at stp ⊢
  unfold tb__law_with_c5_p
  unfold ePath at stp ⊢
  walk_at "dn"
  refine ⟨by decide, fun a ha => ?_⟩
  try walk_at "dn"
  refine for_ind (fun its ρ M' => ∃ pre suf d4 d7 d8, its = suf.map eRing ∧ P = pre ++ suf ∧ Le M M' ∧ M' a = some (.lst ((insP pre 0 n m).map eRing)) ∧ ρ = [some (.tup (P.map eRing)), some (.int n), d2, some (ePt m), d4, some (.ref a), some (.int ((pre.flatten.length : Nat) : Int)), d7, d8, d9, d10, d11, d12]) ?_ ?_ ⟨[], P, _, _, _, rfl, rfl, Le.um ha, um_same, rfl⟩
  · rintro d its ρ M' Kx ⟨pre, suf, d4, d7, d8, e1, e2, le, hM, rfl⟩ hk
    cases suf with
    | nil => cases e1
    | cons r suf =>
      cases e1
      have hln := congrArg List.length e2
      rw [List.length_append, List.length_cons] at hln
      have hr : r.length ≤ 10000 := by
        rw [e2, List.flatten_append, List.flatten_cons, List.length_append, List.length_append] at hf
        omega
      walk_at "dn"
      refine stp _ _ a _ pre r _ _ hM rfl hr (by omega) fun q o d8 hq => ?_
      exact hk _ _ ⟨pre ++ [r], suf, _, _, _, rfl, by rw [e2, List.append_assoc]; rfl, Le.um' (le.trans (Le.um hq)) ha, um_same, rfl⟩
  · rintro ρ M' ⟨pre, suf, d4, d7, d8, e1, e2, le, hM, rfl⟩
    have hS : suf = [] := by cases suf <;> first | rfl | cases e1
    subst hS
    rw [List.append_nil] at e2
    subst e2
    walk_at "dn"
    rw [insP_eq m n P 0 (Nat.zero_le _)] at hM
    exact ⟨_, hM, by decide, Rw.le k le⟩
theorem ev_diff (x y : Int) : (x - y).fmod 2 = 0 ↔ (x + y).fmod 2 ≠ 1 := by
  rw [Int.fmod_eq_emod_of_nonneg _ (by decide), Int.fmod_eq_emod_of_nonneg _ (by decide)]
  omega
theorem mid_law {x y : Int} (h : (x + y).fmod 2 ≠ 1) : x + (y - x).fdiv 2 = (x + y).fdiv 2 := by
  rw [Int.fmod_eq_emod_of_nonneg _ (by decide)] at h
  rw [Int.fdiv_eq_ediv_of_nonneg _ (by decide), Int.fdiv_eq_ediv_of_nonneg _ (by decide)]
  omega
theorem h__law_with : Hg g__law_with tb__law_with n__law_with := by
  rintro ds R E M ⟨P, n, rfl, hl, hf, k⟩
  unfold tb__law_with
  have fin : ∀ (m : Pt) (n : Nat) d2 d4 d5 d6 d7 d8 d9 d10 d11 d12, R (.tup [.str "told", ePath (putMid P n m)]) M → tb__law_with_c5 (ends R E) [some (ePath P), some (.int n), d2, some (ePt m), d4, d5, d6, d7, d8, d9, d10, d11, d12] M := fun m n d2 d4 d5 d6 d7 d8 d9 d10 d11 d12 k => lw_c5 hl hf k
  generalize tb__law_with_c5 = tc at fin ⊢
  unfold tb__law_with_p
  unfold withR at k
  walk_at "dn"
  refine use_lsides hf ?_
  rw [q_lenL, List.length_map]
  refine ⟨_, rfl, _, rfl, ?_⟩
  by_cases c : 0 ≤ n ∧ n < (sidesP P).length
  · obtain ⟨⟨a, b⟩, e1, e2⟩ := sideAt_in c.1 c.2
    rw [e1] at k
    replace k : R (if evB a b = true then .tup [.str "told", ePath (putMid P n.toNat (midP a b))] else .tup [.str "exact", eSide (a, b)]) M := k
    rw [if_neg (by simp; omega)]
    have it : ∀ (R : PD), R (eSide (a, b)) M → itD ((sidesP P).map eSide) n R M := fun R q => it_side c.1 e2 q
    refine it _ ?_
    unfold eSide ePt
    try walk_at "dn"
    refine ⟨by decide, ?_⟩
    have ex : evB a b = false → 0 + 1 + 1 ≤ sizeLine ∧ Rw R (D.tup [D.str (Str.ofString "exact"), eSide (a, b)]) M := fun e => by
      rw [if_neg (by rw [e]; decide)] at k
      exact ⟨by decide, Rw.of k⟩
    by_cases c1 : (a.1 - b.1).fmod 2 = 0
    · rw [if_neg (fun h => h c1)]
      refine ⟨by decide, ?_⟩
      by_cases c2 : (a.2 - b.2).fmod 2 = 0
      · rw [if_neg (fun h => h c2)]
        have h1 := (ev_diff _ _).mp c1
        have h2 := (ev_diff _ _).mp c2
        rw [if_pos (by unfold evB; simp [h1, h2])] at k
        obtain ⟨j, rfl⟩ : ∃ j : Nat, n = j := ⟨n.toNat, by omega⟩
        rw [Int.toNat_natCast] at k
        refine ⟨⟨by decide, by decide⟩, ⟨by decide, by decide⟩, by decide, ?_⟩
        rw [mid_law h1, mid_law h2]
        exact fin (midP a b) j _ _ _ _ _ _ _ _ _ _ k
      · rw [if_pos c2]
        exact it _ (ex (by unfold evB; simp [Decidable.not_not.mp (fun h => c2 ((ev_diff _ _).mpr h))]))
    · rw [if_pos c1]
      exact it _ (ex (by unfold evB; simp [Decidable.not_not.mp (fun h => c1 ((ev_diff _ _).mpr h))]))
  · rw [sideAt_out (by omega)] at k
    rw [if_pos (by simp; omega)]
    exact ⟨by decide, Rw.of k⟩

/-! the law's feed and its draws -/
def feedO (cs : List Int) (i l c : Int) : MO := .lst [.lst (cs.map D.int), .int i, .int l, .int c]
/-- a feed with at least b draws left -/
def FdO (o : MO) (b : Nat) : Prop := ∃ cs i l c, o = feedO cs i l c ∧ 0 ≤ c ∧ c + b ≤ 1099511627776
theorem FdO.mono {o : MO} {b c : Nat} (h : FdO o b) (k : c ≤ b) : FdO o c := by
  obtain ⟨cs, i, l, d, e, h1, h2⟩ := h
  exact ⟨cs, i, l, d, e, h1, by omega⟩
def Feed (M : MS) (a : Addr) (b : Nat) : Prop := ∃ o, M a = some o ∧ FdO o b
theorem Feed.mono {M : MS} {a : Addr} {b c : Nat} (h : Feed M a b) (k : c ≤ b) : Feed M a c := by
  obtain ⟨o, e, f⟩ := h
  exact ⟨o, e, f.mono k⟩
theorem Feed.um {M : MS} {a : Addr} {b : Nat} {o : MO} (h : FdO o b) : Feed (um M a o) a b := ⟨o, um_same, h⟩
def g__law_feed : G := fun ds R _ M => match ds with
  | [.scr _] => ∀ a o, M a = none → FdO o 1000000000000 → R (.ref a) (um M a o)
  | _ => False

abbrev n__law_feed : List Str := ["script"]
def tb__law_feed : DTS :=
  (dRet (dLstN (dCons (dSl (dVar 0) dNoPart (dPart (dC (.int 63)))) (dCons (dC (.int 0)) (dCons (dC (.int 0)) (dCons (dC (.int 0)) dNil))))))
theorem l__law_feed : ∀ ds R E M, g__law_feed ds R E M → ds.length = 1 := by
  intro ds R E M h
  unfold g__law_feed at h
  split at h
  · rfl
  · exact h.elim
theorem h__law_feed : Hg g__law_feed tb__law_feed n__law_feed := by
  intro ds R RE M h
  unfold g__law_feed at h
  split at h
  · rename_i ns
    unfold tb__law_feed
    walk_at "dd"
    refine ⟨by decide, fun p hp => ?_⟩
    exact Rw.of (h p _ hp ⟨_, 0, 0, 0, rfl, by decide, by decide⟩)
  · exact h.elim
/-- any number from 0 on below n; the feed has one draw less -/
def g__law_draw : G := fun ds R _ M => match ds with
  | [.ref a, .int n] => 0 < n ∧ n.natAbs.log2 < 9000 ∧ ∃ b, Feed M a (b + 1) ∧ ∀ r o, 0 ≤ r → r < n → FdO o b → R (.int r) (um M a o)
  | _ => False
abbrev n__law_draw : List Str := ["feed", "many", "cell", "mixed", "found"]
def tb__law_draw_c4 : DTS :=
  (dSeq (dSub (dOp addD (dIx (dVar 0) (dC (.int 1))) (dC (.int 1))) (dVar 0) (dC (.int 1)))
  (dSeq (dIfS (dAnd (dTst (dOp geD (dVar 2) (dOp powD (dC (.int 10)) (dC (.int 18))))) (dTst (dOp leD (dIx (dVar 0) (dC (.int 1))) (dCB lenD (dCons (dIx (dVar 0) (dC (.int 0))) dNil))))) (dSeq (dSub (dOp fdivD (dVar 2) (dVar 1)) (dVar 0) (dC (.int 2)))
  (dRet (dOp modD (dVar 2) (dVar 1)))) dNext)
  (dSeq (dSet 3 (dOp modD (dOp powD (dOp addD (dOp addD (dOp modD (dVar 2) (dC (.int 2147483629))) (dOp mulD (dC (.int 7919)) (dIx (dVar 0) (dC (.int 3))))) (dC (.int 1))) (dC (.int 5))) (dC (.int 2147483647))))
  (dRet (dOp modD (dOp fdivD (dOp modD (dOp powD (dOp addD (dVar 3) (dOp mulD (dC (.int 104729)) (dIx (dVar 0) (dC (.int 3))))) (dC (.int 5))) (dC (.int 2147483587))) (dC (.int 64))) (dVar 1))))))
def tb__law_draw : DTS :=
  (dSeq (dSub (dOp addD (dIx (dVar 0) (dC (.int 3))) (dC (.int 1))) (dVar 0) (dC (.int 3)))
  (dSeq (dIfS (dTst (dOp gtD (dIx (dVar 0) (dC (.int 2))) (dC (.int 0)))) (dSeq (dSet 4 (dOp modD (dIx (dVar 0) (dC (.int 2))) (dVar 1)))
  (dSeq (dSub (dOp fdivD (dIx (dVar 0) (dC (.int 2))) (dVar 1)) (dVar 0) (dC (.int 2)))
  (dRet (dVar 4)))) dNext)
  (dSeq (dSet 2 (dC (.int 5)))
  (dSeq (dIfS (dTst (dOp (eqD fun k => !k) (dIx (dVar 0) (dC (.int 0))) (dLst dNil))) (dSet 2 (dIx (dIx (dVar 0) (dC (.int 0))) (dOp modD (dIx (dVar 0) (dC (.int 1))) (dCB lenD (dCons (dIx (dVar 0) (dC (.int 0))) dNil))))) dNext)
  tb__law_draw_c4))))
theorem l__law_draw : ∀ ds R E M, g__law_draw ds R E M → ds.length = 2 := by
  intro ds R E M h
  unfold g__law_draw at h
  split at h
  · rfl
  · exact h.elim
theorem feed_next {R : PD} {M : MS} {a : Addr} {b : Nat} {r n : Int} {cs : List Int} {i l c : Int} (k : ∀ r o, 0 ≤ r → r < n → FdO o b → R (.int r) (um M a o)) (hr : 0 ≤ r ∧ r < n) (hc : 0 ≤ c) (hb : c + b ≤ 1099511627776) :
    Rw R (.int r) (um M a (.lst [.lst (cs.map D.int), .int i, .int l, .int c])) := Rw.of (k r _ hr.1 hr.2 ⟨cs, i, l, c, rfl, hc, hb⟩)
theorem draw_tail {R : PD} {RE : Ex → MS → Prop} {M : MS} {a : Addr} {b : Nat} {n cell : Int} {cs : List Int} {i l c : Int} (hn : 0 < n) (hz : n.natAbs.log2 < 9000) (hc : 0 ≤ c) (hb : c + b ≤ 1099511627776)
    (k : ∀ r o, 0 ≤ r → r < n → FdO o b → R (.int r) (um M a o)) :
    tb__law_draw_c4 (ends R RE) [some (.ref a), some (.int n), some (.int cell), none, none] (um M a (.lst [.lst (cs.map D.int), .int i, .int l, .int c])) := by
  have hn0 : n ≠ 0 := by omega
  have hd : ∀ i, CDivX i n := fun i => ⟨hn0, hz⟩
  have hm : ∀ x k : Int, 0 ≤ k → k < 1000000 → 0 ≤ x → x ≤ 1099511627776 → CMulX k x := fun x k h1 h2 h3 h4 => mul_ok (a := 20) (b := 41) (by omega) (by omega) (by decide) (by decide) (by decide)
  have hp : CPow 10 18 := ⟨by decide, by decide, by decide⟩
  have h1 := fmod_nn (i := cell) (n := 2147483629) (by decide)
  have h2 := fmod_nn (i := (Int.fmod cell 2147483629 + 7919 * c + 1) ^ Int.toNat 5) (n := 2147483647) (by decide)
  unfold tb__law_draw_c4
  walk_at "dd"
  refine ⟨hp, ?_⟩
  split
  · split
    · exact ⟨hd _, hn0, feed_next k (fmod_nn hn) hc hb⟩
    · exact ⟨by decide, hm _ _ (by decide) (by decide) hc (by omega), ⟨by decide, by decide, by omega⟩, by decide, hm _ _ (by decide) (by decide) hc (by omega), ⟨by decide, by decide, by omega⟩, by decide, ⟨by decide, by decide⟩, hn0, feed_next k (fmod_nn hn) hc hb⟩
  · exact ⟨by decide, hm _ _ (by decide) (by decide) hc (by omega), ⟨by decide, by decide, by omega⟩, by decide, hm _ _ (by decide) (by decide) hc (by omega), ⟨by decide, by decide, by omega⟩, by decide, ⟨by decide, by decide⟩, hn0, feed_next k (fmod_nn hn) hc hb⟩
theorem h__law_draw : Hg g__law_draw tb__law_draw n__law_draw := by
  intro ds R RE M h
  unfold g__law_draw at h
  split at h
  · rename_i a n
    obtain ⟨hn, hz, b, ⟨o, ea, cs, i, l, c, rfl, hc, hb⟩, k⟩ := h
    unfold tb__law_draw
    unfold feedO at ea
    have hn0 : n ≠ 0 := by omega
    have hd : ∀ i, CDivX i n := fun i => ⟨hn0, hz⟩
    walk_at "dd"
    repeat (simp only [ea]; walk_at "dd")
    have hb' : c + 1 + (b : Int) ≤ 1099511627776 := by omega
    split
    · exact ⟨hn0, hd _, feed_next k (fmod_nn hn) (by omega) hb'⟩
    · refine ⟨by decide, q_intsNil ?_⟩
      walk_at "dd"
      cases cs with
      | nil => exact draw_tail hn hz (by omega) hb' k
      | cons x xs =>
        simp only [List.isEmpty_cons, Bool.not_false, if_true]
        try walk_at "dd"
        have h1 : ((D.int x :: List.map D.int xs).length : Int) ≠ 0 := by simp only [List.length_cons]; omega
        have h2 := fmod_nn (i := i) (n := ((D.int x :: List.map D.int xs).length : Int)) (by simp only [List.length_cons]; omega)
        refine ⟨h1, ?_⟩
        refine it_in h2.1 h2.2 fun d hd => ?_
        obtain ⟨z, _, rfl⟩ := List.mem_map.mp hd
        exact draw_tail hn hz (by omega) hb' k
  · exact h.elim

theorem use_draw {R : PD} {E : Ex → MS → Prop} {M : MS} {a : Addr} {n : Int} {b : Nat} (hf : Feed M a (b + 1)) (hn : 0 < n) (hz : n.natAbs.log2 < 9000) (k : ∀ r o, 0 ≤ r → r < n → FdO o b → R (.int r) (um M a o)) : g__law_draw [.ref a, .int n] R E M := ⟨hn, hz, b, hf, k⟩

/-! k11: the drawn points *)-/
def PtR (p : Pt) : Prop := (-999 ≤ p.1 ∧ p.1 ≤ 999) ∧ -999 ≤ p.2 ∧ p.2 ≤ 999
theorem it_rng4 {x : Int} (h : -999 ≤ x ∧ x ≤ 999) {r : Int} (h0 : 0 ≤ r) (h1 : r < 4) {R : PD} {M : MS} (k : ∀ c, (-999 ≤ c ∧ c ≤ 999) → R (.int c) M) : itD [.int (-999), .int 999, .int 0, .int x] r R M := by
  refine it_in h0 (by simpa using h1) fun d hd => ?_
  simp only [List.mem_cons, List.not_mem_nil, or_false] at hd
  rcases hd with rfl | rfl | rfl | rfl
  · exact k _ (by omega)
  · exact k _ (by omega)
  · exact k _ (by omega)
  · exact k _ h
def g__law_point : G := fun ds R E M => ∃ (a : Addr) (b : Nat) (g : Bool), ds = [.ref a, .bl g] ∧ (Feed M a (b + 4)) ∧ (∀ p o, PtR p → FdO o b → R (ePt p) (um M a o))
abbrev n__law_point : List Str := ["feed", "far", "some", "k"]
def tb__law_point : DTS :=
  (dSeq (dIfS (dTru (dVar 1)) (dSeq (dSet 2 (dLc (dRng1 (dCons (dC (.int 2)) dNil)) (.nm 3) dYes (dIx (dLst (dCons (dUn negD (dC (.int 999))) (dCons (dC (.int 999)) (dCons (dC (.int 0)) (dCons (dOp subD (dCall g__law_draw (dCons (dVar 0) (dCons (dC (.int 1999)) dNil))) (dC (.int 999))) dNil))))) (dCall g__law_draw (dCons (dVar 0) (dCons (dC (.int 4)) dNil)))) [3]))
  (dRet (dCB tupD (dCons (dVar 2) dNil)))) dNext)
  (dRet (dTup (dCons (dOp subD (dCall g__law_draw (dCons (dVar 0) (dCons (dC (.int 7)) dNil))) (dC (.int 3))) (dCons (dOp subD (dCall g__law_draw (dCons (dVar 0) (dCons (dC (.int 7)) dNil))) (dC (.int 3))) dNil)))))
theorem l__law_point : ∀ ds R E M, g__law_point ds R E M → ds.length = 2 := by
  rintro ds R E M ⟨_, _, _, rfl, -⟩; rfl
theorem u__law_point {a : Addr} {b : Nat} {g : Bool} {R : PD} {E : Ex → MS → Prop} {M : MS} (hf : Feed M a (b + 4)) (k : ∀ p o, PtR p → FdO o b → R (ePt p) (um M a o)) : g__law_point [.ref a, .bl g] R E M := ⟨_, _, _, rfl, hf, k⟩
theorem h__law_point : Hg g__law_point tb__law_point n__law_point := by
  rintro ds R E M ⟨a, b, g, rfl, hf, k⟩
  unfold tb__law_point
  walk_at "dd"
  cases g
  · rw [if_neg (by decide)]
    refine use_draw (b := b + 1) (hf.mono (by omega)) (by decide) (by decide) fun x o1 x1 x2 f1 => ?_
    try walk_at "dd"
    refine use_draw (b := b) (Feed.um f1) (by decide) (by decide) fun y o2 y1 y2 f2 => ?_
    rw [um_um]
    try walk_at "dd"
    exact ⟨by decide, Rw.of (k (x - 3, y - 3) o2 ⟨⟨by show -999 ≤ x - 3; omega, by show x - 3 ≤ 999; omega⟩, by show -999 ≤ y - 3; omega, by show y - 3 ≤ 999; omega⟩ f2)⟩
  · rw [if_pos rfl]
    refine ⟨by decide, by decide, ?_⟩
    rw [show rng 0 (Int.toNat 2) = [.int 0, .int 1] from rfl]
    walk_at "dd"
    refine use_draw (b := b + 3) hf (by decide) (by decide) fun x o1 x1 x2 f1 => ?_
    try walk_at "dd"
    refine ⟨by decide, ?_⟩
    refine use_draw (b := b + 2) (Feed.um f1) (by decide) (by decide) fun t o2 t1 t2 f2 => ?_
    try walk_at "dd"
    refine it_rng4 (by omega) t1 t2 fun c hc => ?_
    refine ⟨by show (0 : Nat) < sizeLine; decide, ?_⟩
    try walk_at "dd"
    refine use_draw (b := b + 1) (Feed.um f2) (by decide) (by decide) fun y o3 y1 y2 f3 => ?_
    try walk_at "dd"
    refine ⟨by decide, ?_⟩
    refine use_draw (b := b) (Feed.um f3) (by decide) (by decide) fun t o4 t1 t2 f4 => ?_
    try walk_at "dd"
    refine it_rng4 (by omega) t1 t2 fun c2 hc2 => ?_
    refine ⟨by show (1 : Nat) < sizeLine; decide, ?_⟩
    try walk_at "dd"
    have q := k (c, c2) o4 ⟨hc, hc2⟩ f4
    first | exact Rw.of q | (simp only [um_um]; exact Rw.of q)

/-! k11: the drawn paths *)-/
theorem it_ints (P : Int → Prop) {ds : List D} {r : Int} {R : PD} {M : MS} (h : ∀ d, d ∈ ds → ∃ i, d = .int i ∧ P i) (h0 : 0 ≤ r) (h1 : r < ds.length) (k : ∀ i, P i → R (.int i) M) : itD ds r R M := by
  refine it_in h0 h1 fun d hd => ?_
  obtain ⟨i, rfl, hi⟩ := h d hd
  exact k i hi
structure PathK (P : List (List Pt)) : Prop where
  len : P.length ≤ 6
  rng : ∀ r, r ∈ P → r.length ≤ 6 ∧ ∀ p, p ∈ r → PtR p

def g__law_path : G := fun ds R E M => ∃ (a : Addr) (b : Nat), ds = [.ref a] ∧ (Feed M a (b + 400)) ∧ (∀ P o, PathK P → FdO o b → R (ePath P) (um M a o))
abbrev n__law_path : List Str := ["feed", "far", "found", "k", "many", "j"]
def tb__law_path : DTS :=
  (dSeq (dSet 1 (dOp (eqD id) (dCall g__law_draw (dCons (dVar 0) (dCons (dC (.int 4)) dNil))) (dC (.int 0))))
  (dSeq (dSet 2 (dLstN dNil))
  (dSeq (dFor (dRng1 (dCons (dIx (dLst (dCons (dC (.int 2)) (dCons (dC (.int 1)) (dCons (dC (.int 3)) (dCons (dC (.int 0)) (dCons (dC (.int 6)) (dCons (dC (.int 4)) dNil))))))) (dCall g__law_draw (dCons (dVar 0) (dCons (dC (.int 6)) dNil)))) dNil)) (.nm 3) (dSeq (dSet 4 (dIx (dLst (dCons (dC (.int 3)) (dCons (dC (.int 4)) (dCons (dC (.int 5)) (dCons (dC (.int 2)) (dCons (dC (.int 6)) (dCons (dC (.int 1)) (dCons (dC (.int 0)) dNil)))))))) (dCall g__law_draw (dCons (dVar 0) (dCons (dC (.int 7)) dNil)))))
  (dExpr (dMt appD (dVar 2) (dCons (dCB tupD (dCons (dLc (dRng1 (dCons (dVar 4) dNil)) (.nm 5) dYes (dCall g__law_point (dCons (dVar 0) (dCons (dVar 1) dNil))) [5]) dNil)) dNil)))))
  (dRet (dCB tupD (dCons (dVar 2) dNil))))))
theorem l__law_path : ∀ ds R E M, g__law_path ds R E M → ds.length = 1 := by
  rintro ds R E M ⟨_, _, rfl, -⟩; rfl
theorem u__law_path {a : Addr} {b : Nat} {R : PD} {E : Ex → MS → Prop} {M : MS} (hf : Feed M a (b + 400)) (k : ∀ P o, PathK P → FdO o b → R (ePath P) (um M a o)) : g__law_path [.ref a] R E M := ⟨_, _, rfl, hf, k⟩
theorem h__law_path : Hg g__law_path tb__law_path n__law_path := by
  rintro ds R E M ⟨a, b, rfl, hf, k⟩
  unfold tb__law_path
  walk_at "dn"
  refine use_draw (b := b + 399) (hf.mono (by omega)) (by decide) (by decide) fun g o1 g1 g2 f1 => ?_
  rw [q_eqI]
  try simp only [id]
  refine ⟨by decide, fun p hp => ?_⟩
  have t1 := Two.new (F := fun o => FdO o (b + 399)) (L := []) f1 hp
  refine ⟨by decide, ?_⟩
  refine use_draw (b := b + 398) t1.fd (by decide) (by decide) fun n o2 n1 n2 f2 => ?_
  have t2 := Two.um (F' := fun o => FdO o (b + 398)) t1 f2
  rw [q_ixL]
  refine it_ints (fun n => 0 ≤ n ∧ n ≤ 6) (fun d hd => ?_) n1 (by simpa using n2) fun n hn => ?_
  · simp only [List.mem_cons, List.not_mem_nil, or_false] at hd
    rcases hd with rfl | rfl | rfl | rfl | rfl | rfl <;> exact ⟨_, rfl, by decide, by decide⟩
  refine ⟨by omega, by omega, ?_⟩
  have hpn : M p = none := by rwa [um_ne t1.ne] at hp
  refine for_ind (fun its ρ M' => ∃ P : List (List Pt), P.length + its.length ≤ 6 ∧ PathK P ∧ Two (fun o => FdO o (b + 31 * its.length)) M a p (P.map eRing) M' ∧ ∃ d3 d4 d5, ρ = [some (.ref a), some (.bl (decide (g = 0))), some (.ref p), d3, d4, d5]) ?_ ?_
      ⟨[], by rw [rng_len]; simp; omega, ⟨by simp, fun r hr => by cases hr⟩, t2.mono fun o f => f.mono (by rw [rng_len]; omega), none, none, none, rfl⟩
  · rintro d its ρ M' Kx ⟨P, hl, hP, t, d3, d4, d5, rfl⟩ hk
    rw [List.length_cons] at hl t
    walk_at "dn"
    refine ⟨by decide, ?_⟩
    refine use_draw (b := b + 31 * its.length + 30) (t.mono fun o f => f.mono (by omega)).fd (by decide) (by decide) fun r3 o3 h5 h6 f3 => ?_
    have t2 := Two.um (F' := fun o => FdO o (b + 31 * its.length + 30)) t f3
    rw [q_ixL]
    refine it_ints (fun n => 0 ≤ n ∧ n ≤ 6) (fun d hd => ?_) h5 (by simpa using h6) fun n hn => ?_
    · simp only [List.mem_cons, List.not_mem_nil, or_false] at hd
      rcases hd with rfl | rfl | rfl | rfl | rfl | rfl | rfl <;> exact ⟨_, rfl, by decide, by decide⟩
    try walk_at "dn"
    refine ⟨⟨_, t2.ls⟩, by omega, by omega, ?_⟩
    refine lc_ind (fun js acc M' => ∃ ring : List Pt, ring.length + js.length ≤ 6 ∧ (∀ p, p ∈ ring → PtR p) ∧ acc = ring.map ePt ∧ Two (fun o => FdO o (b + 31 * its.length + 5 * js.length)) M a p (P.map eRing) M') ?_ ?_ ?st
    case st => exact ⟨[], by rw [rng_len]; simp; omega, fun p hp => (List.not_mem_nil hp).elim, rfl, t2.mono fun o f => f.mono (by rw [rng_len]; omega)⟩
    · rintro d js acc M'' Ky ⟨ring, hr, hpt, rfl, t3⟩ hk2
      rw [List.length_cons] at hr t3
      walk_at "dn"
      refine u__law_point (b := b + 31 * its.length + 5 * js.length) ((t3.mono fun o f => f.mono (by omega)).fd) fun q o hq fo => ?_
      refine ⟨by rw [List.length_map, sizeLine_eq]; omega, hk2 _ _ ⟨ring ++ [q], by rw [List.length_append, List.length_singleton]; omega, fun p hp => ?_, by rw [List.map_append]; rfl, Two.um (F' := fun o => FdO o _) t3 fo⟩⟩
      rcases List.mem_append.mp hp with hp | hp
      · exact hpt p hp
      · cases List.mem_singleton.mp hp; exact hq
    · rintro acc M'' ⟨ring, hr, hpt, rfl, t3⟩
      try walk_at "dn"
      refine ⟨_, t3.ls, by rw [List.length_map, sizeLine_eq]; omega, hk _ _ ⟨P ++ [ring], by rw [List.length_append, List.length_singleton]; omega, ⟨by rw [List.length_append, List.length_singleton]; omega, fun r hr => ?_⟩, ?_, _, _, _, rfl⟩⟩
      · rcases List.mem_append.mp hr with hr | hr
        · exact hP.2 r hr
        · cases List.mem_singleton.mp hr
          exact ⟨by simp at *; omega, hpt⟩
      · have e : (P ++ [ring]).map eRing = P.map eRing ++ [.tup (ring.map ePt)] := by rw [List.map_append]; rfl
        rw [e]
        exact t3.put
  · rintro ρ M' ⟨P, hl, hP, t, d3, d4, d5, rfl⟩
    walk_at "dn"
    refine ⟨_, t.ls, ?_⟩
    obtain ⟨o, fo, le⟩ := t.out hpn
    exact Rw.le (k P o hP (fo.mono (by omega))) le

/-! k09: the law *)-/
theorem nice_P {P : List (List Pt)} (hl : P.length ≤ 8) (hr : ∀ r, r ∈ P → r.length ≤ 8 ∧ ∀ p, p ∈ r → p.1.natAbs < 10 ^ 7 ∧ p.2.natAbs < 10 ^ 7) : Nice 7 3 5000 (ePath P) := by
  have hp : ∀ p : Pt, p.1.natAbs < 10 ^ 7 ∧ p.2.natAbs < 10 ^ 7 → Nice 7 1 58 (ePt p) := fun p h => by
    refine nice_tup (n := 28) (fun d hd => ?_) (by simp only [List.length_cons, List.length_nil]; decide)
    simp only [List.mem_cons, List.not_mem_nil, or_false] at hd
    rcases hd with rfl | rfl
    · exact nice_int (by decide) (by decide) h.1
    · exact nice_int (by decide) (by decide) h.2
  have hr2 : ∀ r, r ∈ P → Nice 7 2 500 (eRing r) := fun r h => by
    refine nice_tup (n := 58) (fun d hd => ?_) ?_
    · obtain ⟨p, hp', rfl⟩ := List.mem_map.mp hd
      exact hp p ((hr r h).2 p hp')
    · have := (hr r h).1
      rw [List.length_map]
      omega
  refine nice_tup (n := 500) (fun d hd => ?_) ?_
  · obtain ⟨r, hr', rfl⟩ := List.mem_map.mp hd
    exact hr2 r hr'
  · rw [List.length_map]
    omega
def g_law_lam1 : G := fun ds R E M => ∃ (p : Pt) (x y : Int), ds = [ePt p, .int x, .int y] ∧ (R (ePt (mvP (x, y) p)) M)
abbrev n_law_lam1 : List Str := ["point", "x", "y"]
def te_law_lam1 : DTE :=
  (dTup (dCons (dOp addD (dIx (dVar 0) (dC (.int 0))) (dVar 1)) (dCons (dOp addD (dIx (dVar 0) (dC (.int 1))) (dVar 2)) dNil)))
theorem l_law_lam1 : ∀ ds R E M, g_law_lam1 ds R E M → ds.length = 1 + 2 := by
  rintro ds R E M ⟨_, _, _, rfl, -⟩; rfl
theorem u_law_lam1 {p : Pt} {x y : Int} {R : PD} {E : Ex → MS → Prop} {M : MS}  (k : R (ePt (mvP (x, y) p)) M) : g_law_lam1 [ePt p, .int x, .int y] R E M := ⟨_, _, _, rfl, k⟩
theorem h_law_lam1 : HgL g_law_lam1 te_law_lam1 n_law_lam1 := by
  rintro ds R E M ⟨p, x, y, rfl, k⟩
  unfold te_law_lam1
  unfold ePt
  unfold ePt mvP at k
  walk_at "dn"
  exact ⟨by decide, Rw.of k⟩
def g_law_lam2 : G := fun ds R E M => ∃ (p : Pt), ds = [ePt p] ∧ (R (ePt (mrP p)) M)
abbrev n_law_lam2 : List Str := ["point"]
def te_law_lam2 : DTE :=
  (dTup (dCons (dOp subD (dC (.int 0)) (dIx (dVar 0) (dC (.int 0)))) (dCons (dIx (dVar 0) (dC (.int 1))) dNil)))
theorem l_law_lam2 : ∀ ds R E M, g_law_lam2 ds R E M → ds.length = 1 + 0 := by
  rintro ds R E M ⟨_, rfl, -⟩; rfl
theorem u_law_lam2 {p : Pt} {R : PD} {E : Ex → MS → Prop} {M : MS}  (k : R (ePt (mrP p)) M) : g_law_lam2 [ePt p] R E M := ⟨_, rfl, k⟩
theorem h_law_lam2 : HgL g_law_lam2 te_law_lam2 n_law_lam2 := by
  rintro ds R E M ⟨p, rfl, k⟩
  unfold te_law_lam2
  unfold ePt
  unfold ePt mrP at k
  walk_at "dn"
  exact ⟨by decide, Rw.of k⟩
theorem law_it4 {x : Int} (h : -999 ≤ x ∧ x ≤ 999) {r : Int} (h0 : 0 ≤ r) (h1 : r < 4) {R : PD} {M : MS} (k : ∀ c, (-999 ≤ c ∧ c ≤ 999) → R (.int c) M) : itD [.int 0, .int 1, .int (-1), .int x] r R M := by
  refine it_in h0 (by simpa using h1) fun d hd => ?_
  simp only [List.mem_cons, List.not_mem_nil, or_false] at hd
  rcases hd with rfl | rfl | rfl | rfl
  · exact k _ (by omega)
  · exact k _ (by omega)
  · exact k _ (by omega)
  · exact k _ h
theorem sl_take {P : List (List Pt)} {R : PD} {M : MS} (n : Nat) (k : R (ePath (P.take n)) M) : slD (ePath P) none (some (n : Int)) R M := by
  unfold ePath
  rw [q_slT, cut_take, ← List.map_take]
  exact k
def g_law : G := fun ds R E M => ∃ (ns : List Int), ds = [.scr ns] ∧ (∀ q, M q = none) ∧ (∀ M', R (.bl true) M')
abbrev n_law : List Str := ["script", "feed", "kept", "told", "due", "one", "many", "number", "path", "other", "x", "y", "size", "at", "k", "ring"]
def tb_law_b2 : DTS :=
  (dIfS (dTst (dOp (eqD fun k => !k) (dCB reprD (dCons (dCall g__law_asked (dCons (dC (.int 0)) (dCons (dVar 8) (dCons (dVar 5) (dCons (dVar 13) dNil))))) dNil)) (dCB reprD (dCons (dCall g__law_begun (dCons (dVar 8) (dCons (dVar 5) (dCons (dVar 13) dNil)))) dNil)))) (dRet (dC (.bl false))) dNext)
def tb_law_b1_p (t_b2 : DTS) : DTS :=
  (dSeq (dSet 12 (dIf (dTst (dChain leD ltD (dC (.int 0)) (dVar 5) (dCB lenD (dCons (dVar 8) dNil)))) (dCB lenD (dCons (dIx (dVar 8) (dVar 5)) dNil)) (dC (.int 0))))
  (dFor (dItems (dOp addD (dLRng1 (dOp addD (dVar 12) (dC (.int 1)))) (dLst (dCons (dUn negD (dC (.int 1))) (dCons (dOp subD (dC (.int 0)) (dOp powD (dC (.int 10)) (dC (.int 30)))) dNil))))) (.nm 13) t_b2))
def tb_law_b1 : DTS := tb_law_b1_p tb_law_b2
def tb_law_b3 : DTS :=
  (dIfS (dTst (dOp (eqD fun k => !k) (dCB reprD (dCons (dCall g__law_asked (dCons (dC (.int 1)) (dCons (dVar 8) (dCons (dVar 7) (dCons (dC .non) dNil))))) dNil)) (dCB reprD (dCons (dCall g__law_with (dCons (dVar 8) (dCons (dVar 7) dNil))) dNil)))) (dRet (dC (.bl false))) dNext)
def tb_law_c10_p (t_b3 : DTS) : DTS :=
  (dSeq (dSet 6 (dCB lenD (dCons (dCall g__law_sides (dCons (dVar 8) dNil)) dNil)))
  (dSeq (dFor (dItems (dOp addD (dLRng1 (dOp addD (dVar 6) (dC (.int 1)))) (dLst (dCons (dUn negD (dC (.int 1))) (dCons (dOp powD (dC (.int 10)) (dC (.int 30))) (dCons (dOp subD (dC (.int 0)) (dVar 6)) dNil)))))) (.nm 7) t_b3)
  (dRet (dOp (eqD id) (dCB reprD (dCons (dTup (dCons (dVar 8) (dCons (dVar 9) dNil))) dNil)) (dVar 2)))))
def tb_law_c10 : DTS := tb_law_c10_p tb_law_b3
def tb_law_c9_p (t_b1 : DTS) (t_c10 : DTS) : DTS :=
  (dSeq (dFor (dItems (dOp addD (dLRng1 (dOp addD (dCB lenD (dCons (dVar 8) dNil)) (dC (.int 1)))) (dLst (dCons (dUn negD (dC (.int 1))) (dCons (dOp powD (dC (.int 10)) (dC (.int 30))) dNil))))) (.nm 5) t_b1)
  t_c10)
def tb_law_c9 : DTS := tb_law_c9_p tb_law_b1 tb_law_c10
def tb_law_c8_p (t_c9 : DTS) : DTS :=
  (dSeq (dIfS (dTst (dOp (eqD fun k => !k) (dCB reprD (dCons (dVar 3) dNil)) (dCB reprD (dCons (dVar 4) dNil)))) (dRet (dC (.bl false))) dNext)
  t_c9)
def tb_law_c8 : DTS := tb_law_c8_p tb_law_c9
def tb_law_c4_p (t_c8 : DTS) : DTS :=
  (dSeq (dSet 3 (dLst (dCons (dCall g_shifted (dCons (dVar 8) (dCons (dVar 10) (dCons (dVar 11) dNil)))) (dCons (dCall g_mirrored (dCons (dVar 8) dNil)) (dCons (dCall g_reversed_path (dCons (dVar 8) dNil)) (dCons (dCall g_joined_paths (dCons (dSl (dVar 8) dNoPart (dPart (dC (.int 3)))) (dCons (dVar 9) dNil))) dNil))))))
  (dSeq (dSet 4 (dLstN (dCons (dCallH g__law_each g_law_lam1 (dConsL (dVar 8) (dLamE [10, 11]))) dNil)))
  (dSeq (dExpr (dMt appD (dVar 4) (dCons (dCallH g__law_each g_law_lam2 (dConsL (dVar 8) (dLamE []))) dNil)))
  (dSeq (dSet 4 (dOp addND (dVar 4) (dLst (dCons (dCB tupD (dCons (dLc (dItems (dVar 8)) (.nm 15) dYes (dCall g__law_back (dCons (dVar 15) dNil)) [15]) dNil)) (dCons (dCB tupD (dCons (dOp addD (dCB lstD (dCons (dSl (dVar 8) dNoPart (dPart (dC (.int 3)))) dNil)) (dCB lstD (dCons (dVar 9) dNil))) dNil)) dNil)))))
  t_c8))))
def tb_law_c4 : DTS := tb_law_c4_p tb_law_c8
def tb_law_p (t_c4 : DTS) : DTS :=
  (dSeq (dSet 1 (dCall g__law_feed (dCons (dVar 0) dNil)))
  (dSeq (dPar 8 9 (dCons (dCall g__law_path (dCons (dVar 1) dNil)) (dCons (dSl (dCall g__law_path (dCons (dVar 1) dNil)) dNoPart (dPart (dC (.int 3)))) dNil)))
  (dSeq (dSet 2 (dCB reprD (dCons (dTup (dCons (dVar 8) (dCons (dVar 9) dNil))) dNil)))
  (dSeq (dAsg (.tp [(.nm 10), (.nm 11)]) (dLc (dRng1 (dCons (dC (.int 2)) dNil)) (.nm 14) dYes (dIx (dLst (dCons (dC (.int 0)) (dCons (dC (.int 1)) (dCons (dUn negD (dC (.int 1))) (dCons (dOp subD (dCall g__law_draw (dCons (dVar 1) (dCons (dC (.int 1999)) dNil))) (dC (.int 999))) dNil))))) (dCall g__law_draw (dCons (dVar 1) (dCons (dC (.int 4)) dNil)))) [14]))
  t_c4))))
def tb_law : DTS := tb_law_p tb_law_c4
theorem l_law : ∀ ds R E M, g_law ds R E M → ds.length = 1 := by
  rintro ds R E M ⟨_, rfl, -⟩; rfl
theorem u_law {ns : List Int} {R : PD} {E : Ex → MS → Prop} {M : MS} (hM : ∀ q, M q = none) (k : ∀ M', R (.bl true) M') : g_law [.scr ns] R E M := ⟨_, rfl, hM, k⟩
theorem law_c4 {P Q : List (List Pt)} {x y : Int} {tc : DTS} {R : PD} {E : Ex → MS → Prop} {M : MS} {d0 d1 d2 d3 d4 d5 d6 d7 d12 d13 d14 d15 : Option D} (hP : PathK P) (hQ : PathK Q) (lQ : Q.length ≤ 3) (hx : -999 ≤ x ∧ x ≤ 999) (hy : -999 ≤ y ∧ y ≤ 999)
    (k : ∀ a M', M' a = some (.lst [ePath (P.map (·.map (mvP (x, y)))), ePath (P.map (·.map mrP)), ePath (P.map rvR), ePath (P.take 3 ++ Q)]) → tc (ends R E) [d0, d1, d2, some (.lst [ePath (P.map (·.map (mvP (x, y)))), ePath (P.map (·.map mrP)), ePath (P.map rvR), ePath (P.take 3 ++ Q)]), some (.ref a), d5, d6, d7, some (ePath P), some (ePath Q), some (.int x), some (.int y), d12, d13, d14, d15] M') :
    tb_law_c4_p tc (ends R E) [d0, d1, d2, d3, d4, d5, d6, d7, some (ePath P), some (ePath Q), some (.int x), some (.int y), d12, d13, d14, d15] M := by
  have hl := hP.len
  have sz : P.length ≤ 100000 ∧ ∀ r, r ∈ P → r.length ≤ 100000 := ⟨by omega, fun r hr => by have := (hP.rng r hr).1; omega⟩
  have sz4 : P.length ≤ 10000 ∧ ∀ r, r ∈ P → r.length ≤ 10000 := ⟨by omega, fun r hr => by have := (hP.rng r hr).1; omega⟩
  unfold tb_law_c4_p
  walk_at "dn"
  refine u_shifted sz ?_
  refine u_mirrored sz ?_
  refine u_reversed_path sz ?_
  refine sl_take 3 ?_
  refine u_joined_paths (by rw [List.length_take]; omega) ?_
  refine ⟨by decide, ?_⟩
  intro F ws
  refine u__law_each (f := mvP (x, y)) sz4 (fun p R M' q => u_law_lam1 q) ?_
  refine ⟨by decide, fun a ha => ⟨⟨_, rfl⟩, ?_⟩⟩
  intro F ws
  refine u__law_each (f := mrP) sz4 (fun p R M' q => u_law_lam2 q) ?_
  refine ⟨_, um_same, by show (1 : Nat) < sizeLine; decide, ?_⟩
  rw [show ePath P = .tup (P.map eRing) from rfl]
  try walk_at "dn"
  refine lc_mapG eRing (fun r => eRing (rvR r)) (fun r hr R q => ?_) (slz (by omega)) ?_
  · walk_at "dn"
    exact u__law_back (by have := (hP.rng r hr).1; omega) q
  rw [show (3 : Int) = ((3 : Nat) : Int) from rfl, cut_take, ← List.map_take, show ePath Q = .tup (Q.map eRing) from rfl]
  try walk_at "dn"
  rw [← List.map_append]
  refine ⟨by rw [List.length_map, List.length_map, List.length_take]; exact slz (by omega), by decide, by show (2 : Nat) + 2 ≤ sizeLine; decide, fun p hp => ?_⟩
  have q := k p (um (um M a (.lst [ePath (P.map (·.map (mvP (x, y)))), ePath (P.map (·.map mrP))])) p (.lst [ePath (P.map (·.map (mvP (x, y)))), ePath (P.map (·.map mrP)), ePath (P.map rvR), ePath (P.take 3 ++ Q)])) um_same
  have e1 : ePath (P.map rvR) = D.tup (P.map fun r => eRing (rvR r)) := by unfold ePath; rw [List.map_map]; rfl
  rw [e1] at q ⊢
  exact q
def told (P Q : List (List Pt)) (x y : Int) : List D := [ePath (P.map (·.map (mvP (x, y)))), ePath (P.map (·.map mrP)), ePath (P.map rvR), ePath (P.take 3 ++ Q)]
theorem mem_mapmap {f : Pt → Pt} {P : List (List Pt)} {r : List Pt} (h : r ∈ P.map (·.map f)) : ∃ r', r' ∈ P ∧ r = r'.map f := by
  obtain ⟨r', h1, rfl⟩ := List.mem_map.mp h
  exact ⟨r', h1, rfl⟩
theorem PathK.nice {P : List (List Pt)} (h : PathK P) : Nice 7 3 5000 (ePath P) := nice_P (by have := h.len; omega) fun r hr => ⟨by have := (h.rng r hr).1; omega, fun p hp => by
  obtain ⟨a, b⟩ := (h.rng r hr).2 p hp
  omega⟩
theorem mem_rvR (r : List Pt) (x : Pt) : x ∈ rvR r ↔ x ∈ r := by
  unfold rvR
  rw [List.mem_append, List.mem_reverse, ← List.mem_append, List.take_append_drop]
theorem told_nice {P Q : List (List Pt)} {x y : Int} (hP : PathK P) (hQ : PathK Q) (lQ : Q.length ≤ 3) (hx : -999 ≤ x ∧ x ≤ 999) (hy : -999 ≤ y ∧ y ≤ 999) : Nice 7 4 30000 (.lst (told P Q x y)) := by
  refine nice_lst (n := 5000) (fun d hd => ?_) (by show (5000 + 1) * 4 ≤ 30000; decide)
  unfold told at hd
  simp only [List.mem_cons, List.not_mem_nil, or_false] at hd
  have hl := hP.len
  rcases hd with rfl | rfl | rfl | rfl
  · refine nice_P (by rw [List.length_map]; omega) fun r hr => ?_
    obtain ⟨r', h1, rfl⟩ := mem_mapmap hr
    refine ⟨by rw [List.length_map]; have := (hP.rng r' h1).1; omega, fun p hp => ?_⟩
    obtain ⟨p', h2, rfl⟩ := List.mem_map.mp hp
    obtain ⟨a, b⟩ := (hP.rng r' h1).2 p' h2
    show (p'.1 + x).natAbs < _ ∧ (p'.2 + y).natAbs < _
    omega
  · refine nice_P (by rw [List.length_map]; omega) fun r hr => ?_
    obtain ⟨r', h1, rfl⟩ := mem_mapmap hr
    refine ⟨by rw [List.length_map]; have := (hP.rng r' h1).1; omega, fun p hp => ?_⟩
    obtain ⟨p', h2, rfl⟩ := List.mem_map.mp hp
    obtain ⟨a, b⟩ := (hP.rng r' h1).2 p' h2
    show (0 - p'.1).natAbs < _ ∧ p'.2.natAbs < _
    omega
  · refine nice_P (by rw [List.length_map]; omega) fun r hr => ?_
    obtain ⟨r', h1, rfl⟩ := List.mem_map.mp hr
    refine ⟨by rw [rvR_len]; have := (hP.rng r' h1).1; omega, fun p hp => ?_⟩
    obtain ⟨a, b⟩ := (hP.rng r' h1).2 p ((mem_rvR r' p).mp hp)
    omega
  · refine nice_P (by rw [List.length_append, List.length_take]; omega) fun r hr => ?_
    have hr' : r.length ≤ 6 ∧ ∀ p, p ∈ r → PtR p := by
      rcases List.mem_append.mp hr with hr | hr
      · exact hP.rng r (List.mem_of_mem_take hr)
      · exact hQ.rng r hr
    refine ⟨by omega, fun p hp => ?_⟩
    obtain ⟨a, b⟩ := hr'.2 p hp
    omega
theorem sees_ls {M : MS} {a : Addr} {ds : List D} (h : M a = some (.lst ds)) : Sees M (.ref a) (.lst ds) := ⟨ds, h, rfl⟩
theorem law_c8 {P Q : List (List Pt)} {x y : Int} {a : Addr} {tc : DTS} {R : PD} {E : Ex → MS → Prop} {M : MS} {d0 d1 d2 d5 d6 d7 d8 d9 d10 d11 d12 d13 d14 d15 : Option D} (hn : Nice 7 4 30000 (.lst (told P Q x y))) (ha : M a = some (.lst (told P Q x y)))
    (k : tc (ends R E) [d0, d1, d2, some (.lst (told P Q x y)), some (.ref a), d5, d6, d7, d8, d9, d10, d11, d12, d13, d14, d15] M) :
    tb_law_c8_p tc (ends R E) [d0, d1, d2, some (.lst (told P Q x y)), some (.ref a), d5, d6, d7, d8, d9, d10, d11, d12, d13, d14, d15] M := by
  unfold tb_law_c8_p
  walk_at "dn"
  refine repr_of hn (by decide) (by decide) (by decide) ?_
  refine ⟨.lst (told P Q x y), sees_ls ha, hn.isp, hn.okR (by decide) (by decide) (by decide), ?_⟩
  show eqD (fun k => !k) _ _ _ _
  rw [q_eqS, decide_eq_true rfl]
  try walk_at "dn"
  exact k
theorem nice_P40 {P : List (List Pt)} (hl : P.length ≤ 8) (hr : ∀ r, r ∈ P → r.length ≤ 8 ∧ ∀ p, p ∈ r → p.1.natAbs < 10 ^ 7 ∧ p.2.natAbs < 10 ^ 7) : Nice 40 3 30000 (ePath P) := by
  have up : ∀ x : Int, x.natAbs < 10 ^ 7 → x.natAbs < 10 ^ 40 := fun x h => Nat.lt_of_lt_of_le h (by decide)
  have hp : ∀ p : Pt, p.1.natAbs < 10 ^ 7 ∧ p.2.natAbs < 10 ^ 7 → Nice 40 1 400 (ePt p) := fun p h => by
    refine nice_tup (n := 160) (fun d hd => ?_) (by simp only [List.length_cons, List.length_nil]; decide)
    simp only [List.mem_cons, List.not_mem_nil, or_false] at hd
    rcases hd with rfl | rfl
    · exact nice_int (by decide) (by decide) (up _ h.1)
    · exact nice_int (by decide) (by decide) (up _ h.2)
  have hr2 : ∀ r, r ∈ P → Nice 40 2 3500 (eRing r) := fun r h => by
    refine nice_tup (n := 400) (fun d hd => ?_) ?_
    · obtain ⟨p, hp', rfl⟩ := List.mem_map.mp hd
      exact hp p ((hr r h).2 p hp')
    · have := (hr r h).1
      rw [List.length_map]
      omega
  refine nice_tup (n := 3500) (fun d hd => ?_) ?_
  · obtain ⟨r, hr', rfl⟩ := List.mem_map.mp hd
    exact hr2 r hr'
  · rw [List.length_map]
    omega
theorem nice_word {x : Str} {d : D} (hx : PySem.PyData.strOk x = true) (hl : x.length ≤ 30000) (h : Nice 40 3 30000 d) : Nice 40 4 70000 (.tup [.str x, d]) := by
  refine nice_tup (n := 30000) (fun e he => ?_) (by show (30000 + 1) * 2 ≤ 70000; decide)
  simp only [List.mem_cons, List.not_mem_nil, or_false] at he
  rcases he with rfl | rfl
  · exact (nice_str hx hl).up (by decide) (by decide)
  · exact h
theorem nice_i40 {i : Int} (h : i.natAbs < 10 ^ 40) : Nice 40 3 30000 (.int i) := (nice_int (by decide) (by decide) h).up (by decide) (by decide)
theorem rot_mem {r : List Pt} {j : Nat} {p : Pt} (h : p ∈ rotR r j) : p ∈ r := by
  unfold rotR at h
  rcases List.mem_append.mp h with h | h
  · exact List.mem_of_mem_drop h
  · exact List.mem_of_mem_take h
theorem begR_nice {P : List (List Pt)} {i j : Int} (hP : PathK P) (hi : i.natAbs < 10 ^ 40) (hj : j.natAbs < 10 ^ 40) : Nice 40 4 70000 (begR P i j) := by
  unfold begR
  split
  · exact nice_word (by decide +kernel) (by decide +kernel) (nice_i40 hi)
  · rename_i r e
    have hl := hP.len
    have hr : r ∈ P := by
      unfold ringAt at e
      split at e
      · exact List.mem_of_getElem? e
      · cases e
    have hq := hP.rng r hr
    split
    · rename_i c
      refine nice_word (by decide +kernel) (by decide +kernel) (nice_P40 ?_ fun q hq' => ?_)
      · unfold setR
        rw [List.length_append, List.length_cons, List.length_take, List.length_drop]; omega
      · have : q.length ≤ 6 ∧ ∀ p, p ∈ q → PtR p := by
          unfold setR at hq'
          rcases List.mem_append.mp hq' with h | h
          · exact hP.rng q (List.mem_of_mem_take h)
          · rcases List.mem_cons.mp h with rfl | h
            · refine ⟨by rw [rotR_len c.2]; exact hq.1, fun p hp => hq.2 p (rot_mem hp)⟩
            · exact hP.rng q (List.mem_of_mem_drop h)
        refine ⟨by omega, fun p hp => ?_⟩
        obtain ⟨a, b⟩ := this.2 p hp
        omega
    · exact nice_word (by decide +kernel) (by decide +kernel) (nice_i40 hj)
theorem withR_nice {P : List (List Pt)} {n : Int} (hP : PathK P) (hn : n.natAbs < 10 ^ 40) : Nice 40 4 70000 (withR P n) := by
  unfold withR
  have hl := hP.len
  split
  · exact nice_word (by decide +kernel) (by decide +kernel) (nice_i40 hn)
  · rename_i a b e
    have hz : (a, b) ∈ sidesP P := by
      unfold sideAt at e
      split at e
      · exact List.mem_of_getElem? e
      · cases e
    obtain ⟨r, hr, h1, h2⟩ : ∃ r, r ∈ P ∧ a ∈ r ∧ b ∈ r := by
      unfold sidesP at hz
      obtain ⟨r, hr, hs⟩ := List.mem_flatMap.mp hz
      unfold sidesR at hs
      have := List.of_mem_zip hs
      refine ⟨r, hr, this.1, ?_⟩
      rcases List.mem_append.mp this.2 with e | e
      · exact List.mem_of_mem_drop e
      · exact List.mem_of_mem_take e
    have pa := (hP.rng r hr).2 _ h1
    have pb := (hP.rng r hr).2 _ h2
    split
    · rename_i c
      have mid : (midP a b).1.natAbs < 10 ^ 7 ∧ (midP a b).2.natAbs < 10 ^ 7 := by
        obtain ⟨a1, a2⟩ := pa
        obtain ⟨b1, b2⟩ := pb
        unfold midP
        try simp only
        rw [Int.fdiv_eq_ediv_of_nonneg _ (by decide), Int.fdiv_eq_ediv_of_nonneg _ (by decide)]
        try simp only at a1 a2 b1 b2
        omega
      have key : ∀ (Q : List (List Pt)) (k : Nat), (∀ q, q ∈ Q → q.length ≤ 6 ∧ ∀ p, p ∈ q → PtR p) → (putMid Q k (midP a b)).length = Q.length ∧ ∀ q, q ∈ putMid Q k (midP a b) → q.length ≤ 7 ∧ ∀ p, p ∈ q → p.1.natAbs < 10 ^ 7 ∧ p.2.natAbs < 10 ^ 7 := by
        intro Q
        have ok : ∀ p, PtR p → p.1.natAbs < 10 ^ 7 ∧ p.2.natAbs < 10 ^ 7 := fun p h => by
          obtain ⟨a, b⟩ := h
          omega
        induction Q with
        | nil => intro k _; exact ⟨rfl, fun q hq => by cases hq⟩
        | cons r Q ih =>
          intro k hQ
          have hr := hQ r (.head _)
          simp only [putMid]
          split
          · refine ⟨by simp, fun q hq => ?_⟩
            rcases List.mem_cons.mp hq with rfl | hq
            · refine ⟨by rw [List.length_append, List.length_cons, List.length_take, List.length_drop]; omega, fun p hp => ?_⟩
              rcases List.mem_append.mp hp with hp | hp
              · exact ok p (hr.2 p (List.mem_of_mem_take hp))
              · rcases List.mem_cons.mp hp with rfl | hp
                · exact mid
                · exact ok p (hr.2 p (List.mem_of_mem_drop hp))
            · have := hQ q (.tail _ hq)
              exact ⟨by omega, fun p hp => ok p (this.2 p hp)⟩
          · obtain ⟨i1, i2⟩ := ih (k - r.length) fun q hq => hQ q (.tail _ hq)
            refine ⟨by rw [List.length_cons, List.length_cons, i1], fun q hq => ?_⟩
            rcases List.mem_cons.mp hq with rfl | hq
            · exact ⟨by omega, fun p hp => ok p (hr.2 p hp)⟩
            · exact i2 q hq
      obtain ⟨k1, k2⟩ := key P n.toNat hP.rng
      exact nice_word (by decide +kernel) (by decide +kernel) (nice_P40 (by omega) fun q hq => ⟨by have := (k2 q hq).1; omega, (k2 q hq).2⟩)
    · refine nice_word (by decide +kernel) (by decide +kernel) ?_
      have e1 : (eSide (a, b)) = eRing [a, b] := rfl
      have hp : ∀ p : Pt, PtR p → Nice 40 1 400 (ePt p) := fun p h => by
        obtain ⟨c, d⟩ := h
        refine nice_tup (n := 160) (fun d hd => ?_) (by simp only [List.length_cons, List.length_nil]; decide)
        simp only [List.mem_cons, List.not_mem_nil, or_false] at hd
        rcases hd with rfl | rfl
        · exact nice_int (by decide) (by decide) (by omega)
        · exact nice_int (by decide) (by decide) (by omega)
      have : Nice 40 2 1000 (eSide (a, b)) := by
        refine nice_tup (n := 400) (fun d hd => ?_) (by show (400 + 1) * 2 ≤ 1000; decide)
        simp only [List.mem_cons, List.not_mem_nil, or_false] at hd
        rcases hd with rfl | rfl
        · exact hp _ pa
        · exact hp _ pb
      exact this.up (by decide) (by decide)
theorem nice_eq {m n : Nat} {d : D} {R : PD} {M : MS} (h : Nice 40 m n d) (hm : m ≤ 60) (hn : (40 + 3) * n + 40 + 1 ≤ 16777216) (q : R (.bl false) M) : reprD [d] (fun x M1 => reprD [d] (fun y M2 => eqD (fun k => !k) x y R M2) M1) M :=
  repr_of h (by decide) hm hn (repr_of h (by decide) hm hn (by rw [q_eqS, decide_eq_true rfl]; exact q))
theorem PathK.fl {P : List (List Pt)} (h : PathK P) : P.flatten.length ≤ 36 := by
  have key : ∀ (Q : List (List Pt)), (∀ r, r ∈ Q → r.length ≤ 6) → Q.flatten.length ≤ 6 * Q.length := by
    intro Q
    induction Q with
    | nil => intro _; simp
    | cons r Q ih =>
      intro h
      have := h r (.head _)
      have := ih fun r hr => h r (.tail _ hr)
      rw [List.flatten_cons, List.length_append, List.length_cons]; omega
  have := key P fun r hr => (h.rng r hr).1
  have := h.len
  omega
theorem law_b2 {P : List (List Pt)} {i j : Int} {De : DEnds} {M : MS} {d0 d1 d2 d3 d4 d6 d7 d9 d10 d11 d12 d14 d15 : Option D} (hP : PathK P) (hi : i.natAbs < 10 ^ 40) (hj : j.natAbs < 10 ^ 40)
    (k : De.nx [d0, d1, d2, d3, d4, some (.int i), d6, d7, some (ePath P), d9, d10, d11, d12, some (.int j), d14, d15] M) :
    tb_law_b2 De [d0, d1, d2, d3, d4, some (.int i), d6, d7, some (ePath P), d9, d10, d11, d12, some (.int j), d14, d15] M := by
  have hl := hP.len
  have hf := hP.fl
  have h4 : ∀ r, r ∈ P → r.length ≤ 10000 := fun r hr => by have := (hP.rng r hr).1; omega
  have hn := begR_nice hP hi hj
  unfold tb_law_b2
  walk_at "dn"
  refine u__law_asked (by omega) (by omega) h4 (.inl ⟨i, j, rfl, rfl, rfl, ?_⟩) trivial
  refine repr_of hn (by decide) (by decide) (by decide) ?_
  refine u__law_begun (by omega) h4 ?_
  refine repr_of hn (by decide) (by decide) (by decide) ?_
  rw [q_eqS, decide_eq_true rfl]
  try walk_at "dn"
  exact k
theorem law_b3 {P : List (List Pt)} {i : Int} {De : DEnds} {M : MS} {d0 d1 d2 d3 d4 d5 d6 d9 d10 d11 d12 d13 d14 d15 : Option D} (hP : PathK P) (hi : i.natAbs < 10 ^ 40)
    (k : De.nx [d0, d1, d2, d3, d4, d5, d6, some (.int i), some (ePath P), d9, d10, d11, d12, d13, d14, d15] M) :
    tb_law_b3 De [d0, d1, d2, d3, d4, d5, d6, some (.int i), some (ePath P), d9, d10, d11, d12, d13, d14, d15] M := by
  have hl := hP.len
  have hf := hP.fl
  have h4 : ∀ r, r ∈ P → r.length ≤ 10000 := fun r hr => by have := (hP.rng r hr).1; omega
  have hn := withR_nice hP hi
  unfold tb_law_b3
  walk_at "dn"
  refine u__law_asked (by omega) (by omega) h4 (.inr ⟨i, rfl, rfl, ?_⟩) trivial
  refine repr_of hn (by decide) (by decide) (by decide) ?_
  refine u__law_with (by omega) (by omega) ?_
  refine repr_of hn (by decide) (by decide) (by decide) ?_
  rw [q_eqS, decide_eq_true rfl]
  try walk_at "dn"
  exact k
theorem law_b1 {P : List (List Pt)} {i : Int} {De : DEnds} {M : MS} {d0 d1 d2 d3 d4 d6 d7 d9 d10 d11 d12 d13 d14 d15 : Option D} (hP : PathK P) (hi : i.natAbs < 10 ^ 40)
    (k : ∀ d12 d13, De.nx [d0, d1, d2, d3, d4, some (.int i), d6, d7, some (ePath P), d9, d10, d11, d12, d13, d14, d15] M) :
    tb_law_b1 De [d0, d1, d2, d3, d4, some (.int i), d6, d7, some (ePath P), d9, d10, d11, d12, d13, d14, d15] M := by
  have stp := fun (De : DEnds) (j : Int) d12 (hj : j.natAbs < 10 ^ 40) => law_b2 (De := De) (M := M) (j := j) (d0 := d0) (d1 := d1) (d2 := d2) (d3 := d3) (d4 := d4) (d6 := d6) (d7 := d7) (d9 := d9) (d10 := d10) (d11 := d11) (d12 := d12) (d14 := d14) (d15 := d15) hP hi hj
  have hl := hP.len
  unfold tb_law_b1
  generalize tb_law_b2 = tc at stp ⊢
  unfold tb_law_b1_p
  unfold ePath at stp k ⊢
  have go : ∀ (e : Int), 0 ≤ e → e ≤ 10 → ∀ d12, forW (.nm 13) tc De (rng 0 e.toNat ++ [.int (-1), .int (0 - 10 ^ Int.toNat 30)]) [d0, d1, d2, d3, d4, some (.int i), d6, d7, some (.tup (P.map eRing)), d9, d10, d11, d12, d13, d14, d15] M := fun e e0 e1 d12 => by
    refine for_ind (fun its ρ M' => M' = M ∧ (∀ d, d ∈ its → ∃ j : Int, d = .int j ∧ j.natAbs < 10 ^ 40) ∧ ∃ d13, ρ = [d0, d1, d2, d3, d4, some (.int i), d6, d7, some (.tup (P.map eRing)), d9, d10, d11, d12, d13, d14, d15]) ?_ ?_ ⟨rfl, fun d hd => ?_, _, rfl⟩
    · rintro d its ρ M' Kx ⟨rfl, hits, d13, rfl⟩ hk
      obtain ⟨j, rfl, hj⟩ := hits d (.head _)
      walk_at "dn"
      exact stp _ j _ hj (hk _ _ ⟨rfl, fun d hd => hits d (.tail _ hd), _, rfl⟩)
    · rintro ρ M' ⟨rfl, hits, d13, rfl⟩
      exact k _ _
    · rcases List.mem_append.mp hd with hd | hd
      · obtain ⟨q, hq, rfl⟩ := mem_rng hd
        exact ⟨_, rfl, by omega⟩
      · simp only [List.mem_cons, List.not_mem_nil, or_false] at hd
        rcases hd with rfl | rfl
        · exact ⟨_, rfl, by decide⟩
        · exact ⟨_, rfl, by decide +kernel⟩
  have cp : CPow 10 30 := ⟨by decide, by decide, by decide⟩
  walk_at "dn"
  rw [List.length_map]
  by_cases c0 : 0 ≤ i
  · rw [if_pos c0]
    by_cases c1 : i < P.length
    · rw [if_pos c1]
      obtain ⟨n, r, rfl, hg, e⟩ := ringAt_in c0 c1
      have hrl := (hP.rng r (List.mem_of_getElem? hg)).1
      refine it_P hg ?_
      unfold eRing
      rw [q_lenT, List.length_map, q_add]
      refine ⟨by omega, cp, by decide, by rw [rng_len]; exact slz (by omega), go _ (by omega) (by omega) _⟩
    · rw [if_neg c1]
      exact ⟨by decide, cp, by decide, by rw [rng_len]; decide, go _ (by decide) (by decide) _⟩
  · rw [if_neg c0]
    exact ⟨by decide, cp, by decide, by rw [rng_len]; decide, go _ (by decide) (by decide) _⟩
theorem law_c9 {P : List (List Pt)} {tc : DTS} {De : DEnds} {M : MS} {d0 d1 d2 d3 d4 d5 d6 d7 d9 d10 d11 d12 d13 d14 d15 : Option D} (hP : PathK P)
    (k : ∀ d5 d12 d13, tc De [d0, d1, d2, d3, d4, d5, d6, d7, some (ePath P), d9, d10, d11, d12, d13, d14, d15] M) :
    tb_law_c9_p tb_law_b1 tc De [d0, d1, d2, d3, d4, d5, d6, d7, some (ePath P), d9, d10, d11, d12, d13, d14, d15] M := by
  have stp := fun (De : DEnds) (i : Int) d12 d13 (hi : i.natAbs < 10 ^ 40) => law_b1 (De := De) (M := M) (i := i) (d0 := d0) (d1 := d1) (d2 := d2) (d3 := d3) (d4 := d4) (d6 := d6) (d7 := d7) (d9 := d9) (d10 := d10) (d11 := d11) (d12 := d12) (d13 := d13) (d14 := d14) (d15 := d15) hP hi
  have hl := hP.len
  generalize tb_law_b1 = tb at stp ⊢
  unfold tb_law_c9_p
  unfold ePath at stp k ⊢
  have cp : CPow 10 30 := ⟨by decide, by decide, by decide⟩
  walk_at "dn"
  rw [List.length_map]
  refine ⟨by omega, cp, by decide, by rw [rng_len]; exact slz (by omega), ?_⟩
  refine for_ind (fun its ρ M' => M' = M ∧ (∀ d, d ∈ its → ∃ j : Int, d = .int j ∧ j.natAbs < 10 ^ 40) ∧ ∃ d5 d12 d13, ρ = [d0, d1, d2, d3, d4, d5, d6, d7, some (.tup (P.map eRing)), d9, d10, d11, d12, d13, d14, d15]) ?_ ?_ ⟨rfl, fun d hd => ?_, _, _, _, rfl⟩
  · rintro d its ρ M' Kx ⟨rfl, hits, d5, d12, d13, rfl⟩ hk
    obtain ⟨j, rfl, hj⟩ := hits d (.head _)
    walk_at "dn"
    exact stp _ j _ _ hj fun d12 d13 => hk _ _ ⟨rfl, fun d hd => hits d (.tail _ hd), _, _, _, rfl⟩
  · rintro ρ M' ⟨rfl, hits, d5, d12, d13, rfl⟩
    exact k _ _ _
  · rcases List.mem_append.mp hd with hd | hd
    · obtain ⟨q, hq, rfl⟩ := mem_rng hd
      exact ⟨_, rfl, by omega⟩
    · simp only [List.mem_cons, List.not_mem_nil, or_false] at hd
      rcases hd with rfl | rfl
      · exact ⟨_, rfl, by decide⟩
      · exact ⟨_, rfl, by decide +kernel⟩
theorem law_c10 {P Q : List (List Pt)} {R : PD} {E : Ex → MS → Prop} {M : MS} {d0 d1 d3 d4 d5 d6 d7 d10 d11 d12 d13 d14 d15 : Option D} (hP : PathK P) (hn : Nice 7 4 12000 (.tup [ePath P, ePath Q])) (k : ∀ M', R (.bl true) M') :
    tb_law_c10 (ends R E) [d0, d1, some (.str (pd (.tup [ePath P, ePath Q])).shown), d3, d4, d5, d6, d7, some (ePath P), some (ePath Q), d10, d11, d12, d13, d14, d15] M := by
  have stp := fun (De : DEnds) (M : MS) (i : Int) d0 d1 d2 d3 d4 d5 d6 d9 d10 d11 d12 d13 d14 d15 (hi : i.natAbs < 10 ^ 40) => law_b3 (De := De) (M := M) (i := i) (d0 := d0) (d1 := d1) (d2 := d2) (d3 := d3) (d4 := d4) (d5 := d5) (d6 := d6) (d9 := d9) (d10 := d10) (d11 := d11) (d12 := d12) (d13 := d13) (d14 := d14) (d15 := d15) hP hi
  have hl := hP.len
  have hf := hP.fl
  unfold tb_law_c10
  generalize tb_law_b3 = tb at stp ⊢
  unfold tb_law_c10_p
  have cp : CPow 10 30 := ⟨by decide, by decide, by decide⟩
  walk_at "dn"
  refine use_lsides (by omega) ?_
  try walk_at "dn"
  rw [List.length_map, sidesP_len]
  refine ⟨by omega, cp, by decide, by rw [rng_len]; exact slz (by omega), ?_⟩
  refine for_ind (fun its ρ M' => M' = M ∧ (∀ d, d ∈ its → ∃ j : Int, d = .int j ∧ j.natAbs < 10 ^ 40) ∧ ∃ d6 d7, ρ = [d0, d1, some (.str (pd (.tup [ePath P, ePath Q])).shown), d3, d4, d5, d6, d7, some (ePath P), some (ePath Q), d10, d11, d12, d13, d14, d15]) ?_ ?_ ⟨rfl, fun d hd => ?_, _, _, rfl⟩
  · rintro d its ρ M' Kx ⟨rfl, hits, d6, d7, rfl⟩ hk
    obtain ⟨j, rfl, hj⟩ := hits d (.head _)
    walk_at "dn"
    exact stp _ _ j _ _ _ _ _ _ _ _ _ _ _ _ _ _ hj (hk _ _ ⟨rfl, fun d hd => hits d (.tail _ hd), _, _, rfl⟩)
  · rintro ρ M' ⟨rfl, hits, d6, d7, rfl⟩
    walk_at "dn"
    refine ⟨by decide, ?_⟩
    refine repr_of hn (by decide) (by decide) (by decide) ?_
    rw [q_eqS, decide_eq_true rfl]
    exact Rw.of (k _)
  · rcases List.mem_append.mp hd with hd | hd
    · obtain ⟨q, hq, rfl⟩ := mem_rng hd
      exact ⟨_, rfl, by omega⟩
    · simp only [List.mem_cons, List.not_mem_nil, or_false] at hd
      rcases hd with rfl | rfl | rfl
      · exact ⟨_, rfl, by decide⟩
      · exact ⟨_, rfl, by decide +kernel⟩
      · exact ⟨_, rfl, by omega⟩
theorem kept_nice {P Q : List (List Pt)} (hP : PathK P) (hQ : PathK Q) : Nice 7 4 12000 (.tup [ePath P, ePath Q]) := by
  refine nice_tup (n := 5000) (fun d hd => ?_) (by show (5000 + 1) * 2 ≤ 12000; decide)
  simp only [List.mem_cons, List.not_mem_nil, or_false] at hd
  rcases hd with rfl | rfl
  · exact hP.nice
  · exact hQ.nice
theorem PathK.take {P : List (List Pt)} (h : PathK P) (n : Nat) : PathK (P.take n) := ⟨by rw [List.length_take]; have := h.len; omega, fun r hr => h.rng r (List.mem_of_mem_take hr)⟩
theorem h_law : Hg g_law tb_law n_law := by
  rintro ds R E M ⟨ns, rfl, hM, k⟩
  unfold tb_law
  have fin : ∀ (P Q : List (List Pt)) (x y : Int) (M' : MS) d0 d1 d3 d4 d5 d6 d7 d12 d13 d14 d15, PathK P → PathK Q → Q.length ≤ 3 → (-999 ≤ x ∧ x ≤ 999) → (-999 ≤ y ∧ y ≤ 999) →
      tb_law_c4 (ends R E) [d0, d1, some (.str (pd (.tup [ePath P, ePath Q])).shown), d3, d4, d5, d6, d7, some (ePath P), some (ePath Q), some (.int x), some (.int y), d12, d13, d14, d15] M' := fun P Q x y M' d0 d1 d3 d4 d5 d6 d7 d12 d13 d14 d15 hP hQ lQ hx hy => by
    refine law_c4 (tc := tb_law_c8) hP hQ lQ hx hy fun a M2 ha => ?_
    refine law_c8 (tc := tb_law_c9) (told_nice hP hQ lQ hx hy) ha ?_
    exact law_c9 (tc := tb_law_c10) hP fun _ _ _ => law_c10 hP (kept_nice hP hQ) k
  generalize tb_law_c4 = tc at fin ⊢
  unfold tb_law_p
  walk_at "dn"
  intro a o ha fo
  try walk_at "dn"
  refine u__law_path (b := 10000) ((Feed.um fo).mono (by decide)) fun P o1 hP f1 => ?_
  refine u__law_path (b := 9000) ((Feed.um f1).mono (by decide)) fun Q o2 hQ f2 => ?_
  refine sl_take 3 ?_
  try walk_at "dn"
  refine ⟨by decide, ?_⟩
  refine repr_of (kept_nice hP (hQ.take 3)) (by decide) (by decide) (by decide) ?_
  try walk_at "dn"
  refine ⟨by decide, by decide, ?_⟩
  rw [show rng 0 (Int.toNat 2) = [.int 0, .int 1] from rfl]
  walk_at "dd"
  refine use_draw (b := 8000) ((Feed.um f2).mono (by decide)) (by decide) (by decide) fun x o3 x1 x2 f3 => ?_
  try walk_at "dd"
  refine ⟨by decide, ?_⟩
  refine use_draw (b := 7000) ((Feed.um f3).mono (by decide)) (by decide) (by decide) fun t o4 t1 t2 f4 => ?_
  try walk_at "dd"
  refine law_it4 (by omega) t1 t2 fun c1 hc1 => ?_
  refine ⟨by show (0 : Nat) < sizeLine; decide, ?_⟩
  try walk_at "dd"
  refine use_draw (b := 6000) ((Feed.um f4).mono (by decide)) (by decide) (by decide) fun y o5 y1 y2 f5 => ?_
  try walk_at "dd"
  refine ⟨by decide, ?_⟩
  refine use_draw (b := 5000) ((Feed.um f5).mono (by decide)) (by decide) (by decide) fun t o6 s1 s2 f6 => ?_
  try walk_at "dd"
  refine law_it4 (by omega) s1 s2 fun c2 hc2 => ?_
  refine ⟨by show (1 : Nat) < sizeLine; decide, ?_⟩
  try walk_at "dd"
  exact fin P (Q.take 3) _ _ _ _ _ _ _ _ _ _ _ _ _ _ hP (hQ.take 3) (by rw [List.length_take]; omega) hc1 hc2
theorem law_holds : gLaw g_law := fun ns h => u_law (fun _ => rfl) fun _ => rfl


def topS (i : Nat) : Stmt := PySem.Challenge.pw_inkcover_k09_turned_and_shifted.main.body.getD i (.Pass ⟨0, 0, 0, 0⟩)
abbrev s_init_NoStep : Stmt := clsS (topS 12) 0
theorem sc_init_NoStep : FnScope ["self", "number"] ["self", "number"] (defScope s_init_NoStep) := ⟨rfl, rfl, rfl, by decide +kernel, rfl, by decide +kernel, by decide +kernel⟩
theorem xi_NoStep {K : PySem.W.Frag} {mg : Str → Option Value} {C fI aB : Addr} {fd : FuncData} (F : L2.Fun K "__init__" "NoStep.__init__" s_init_NoStep fI fd) (O : Ow K C PySem.OXG.tL "LookupError.__new__") (mB : mg "LostError" = some (.ref aB)) (bB : BaseC K aB "LookupError.__init__") (mC : mg "NoStep" = some (.ref C)) (nC : PySem.W.nsIn K mainGlobals "NoStep" = some (some (.ref C))) (iC : PySem.W.findIn K (.ref C) "__init__" = some (some (.ref fI))) (tI : PySem.W.typeIn K (.ref fI) = some (.type "function")) (hno0 : PySem.W.findIn K (.ref C) "number" = some none) (P : Program) (w : World) (base : Heap) : XInit P w K mg base "NoStep" ["number"] :=
  ⟨C, fI, fd, PySem.OXG.tL, "LookupError", "LookupError.__new__", "LookupError.__init__", PySem.F.excBase_LookupError, O, mC, nC, iC, tI, F.binds (fun _ _ _ _ _ _ us hl => match us, hl with | [_, _], _ => rfl), Fun.okX (k := 0) F sc_init_NoStep sp_len (fun cdv A outer s H vs Q E hr h => ⟨_, pss_cons (ps_expr (pe_binit PySem.F.excBase_LookupError rfl mB bB (pa_cons (pv 0) pa_nil))) (pss_one (ps_fldX PySem.OXG.chL (pv 0) (pv 1))), init1 O hno0 h⟩)⟩
abbrev s_init_NoSide : Stmt := clsS (topS 10) 0
theorem sc_init_NoSide : FnScope ["self", "number"] ["self", "number"] (defScope s_init_NoSide) := ⟨rfl, rfl, rfl, by decide +kernel, rfl, by decide +kernel, by decide +kernel⟩
theorem xi_NoSide {K : PySem.W.Frag} {mg : Str → Option Value} {C fI aB : Addr} {fd : FuncData} (F : L2.Fun K "__init__" "NoSide.__init__" s_init_NoSide fI fd) (O : Ow K C PySem.OXG.tL "LookupError.__new__") (mB : mg "LostError" = some (.ref aB)) (bB : BaseC K aB "LookupError.__init__") (mC : mg "NoSide" = some (.ref C)) (nC : PySem.W.nsIn K mainGlobals "NoSide" = some (some (.ref C))) (iC : PySem.W.findIn K (.ref C) "__init__" = some (some (.ref fI))) (tI : PySem.W.typeIn K (.ref fI) = some (.type "function")) (hno0 : PySem.W.findIn K (.ref C) "number" = some none) (P : Program) (w : World) (base : Heap) : XInit P w K mg base "NoSide" ["number"] :=
  ⟨C, fI, fd, PySem.OXG.tL, "LookupError", "LookupError.__new__", "LookupError.__init__", PySem.F.excBase_LookupError, O, mC, nC, iC, tI, F.binds (fun _ _ _ _ _ _ us hl => match us, hl with | [_, _], _ => rfl), Fun.okX (k := 0) F sc_init_NoSide sp_len (fun cdv A outer s H vs Q E hr h => ⟨_, pss_cons (ps_expr (pe_binit PySem.F.excBase_LookupError rfl mB bB (pa_cons (pv 0) pa_nil))) (pss_one (ps_fldX PySem.OXG.chL (pv 0) (pv 1))), init1 O hno0 h⟩)⟩
abbrev s_init_NoExact : Stmt := clsS (topS 5) 0
theorem sc_init_NoExact : FnScope ["self", "side"] ["self", "side"] (defScope s_init_NoExact) := ⟨rfl, rfl, rfl, by decide +kernel, rfl, by decide +kernel, by decide +kernel⟩
theorem xi_NoExact {K : PySem.W.Frag} {mg : Str → Option Value} {C fI aB : Addr} {fd : FuncData} (F : L2.Fun K "__init__" "NoExact.__init__" s_init_NoExact fI fd) (O : Ow K C PySem.OXG.tV "ValueError.__new__") (mB : mg "InkError" = some (.ref aB)) (bB : BaseC K aB "ValueError.__init__") (mC : mg "NoExact" = some (.ref C)) (nC : PySem.W.nsIn K mainGlobals "NoExact" = some (some (.ref C))) (iC : PySem.W.findIn K (.ref C) "__init__" = some (some (.ref fI))) (tI : PySem.W.typeIn K (.ref fI) = some (.type "function")) (hno0 : PySem.W.findIn K (.ref C) "side" = some none) (P : Program) (w : World) (base : Heap) : XInit P w K mg base "NoExact" ["side"] :=
  ⟨C, fI, fd, PySem.OXG.tV, "ValueError", "ValueError.__new__", "ValueError.__init__", PySem.F.excBase_ValueError, O, mC, nC, iC, tI, F.binds (fun _ _ _ _ _ _ us hl => match us, hl with | [_, _], _ => rfl), Fun.okX (k := 0) F sc_init_NoExact sp_len (fun cdv A outer s H vs Q E hr h => ⟨_, pss_cons (ps_expr (pe_binit PySem.F.excBase_ValueError rfl mB bB (pa_cons (pv 0) pa_nil))) (pss_one (ps_fldX PySem.OXG.chV (pv 0) (pv 1))), init1 O hno0 h⟩)⟩
structure Bi (K : PySem.W.Frag) (mg : Str → Option Value) : Prop where
  b_isinstance : mg "isinstance" = none
  b_len : mg "len" = none
  b_list : mg "list" = none
  b_range : mg "range" = none
  b_repr : mg "repr" = none
  b_tuple : mg "tuple" = none
  b_zip : mg "zip" = none
  x_NoStep : ∀ (P : Program) (w : World) (base : Heap), XInit P w K mg base "NoStep" ["number"]
  x_NoSide : ∀ (P : Program) (w : World) (base : Heap), XInit P w K mg base "NoSide" ["number"]
  x_NoExact : ∀ (P : Program) (w : World) (base : Heap), XInit P w K mg base "NoExact" ["side"]
  bx : ∀ C ∈ excD, ∀ aC, PySem.W.nsIn K mainGlobals C = some (some (.ref aC)) → ExcC K aC ∧ XfC K aC
  bk_InkError : ∀ C ∈ excD, ∀ aC, PySem.W.nsIn K mainGlobals C = some (some (.ref aC)) → PySem.W.kitOne K (.ref aC) (cvG mg "InkError") = some (subX C "InkError")
  bk_LookupError : ∀ C ∈ excD, ∀ aC, PySem.W.nsIn K mainGlobals C = some (some (.ref aC)) → PySem.W.kitOne K (.ref aC) (cvG mg "LookupError") = some (subX C "LookupError")
  bk_LostError : ∀ C ∈ excD, ∀ aC, PySem.W.nsIn K mainGlobals C = some (some (.ref aC)) → PySem.W.kitOne K (.ref aC) (cvG mg "LostError") = some (subX C "LostError")
  bk_NoCell : ∀ C ∈ excD, ∀ aC, PySem.W.nsIn K mainGlobals C = some (some (.ref aC)) → PySem.W.kitOne K (.ref aC) (cvG mg "NoCell") = some (subX C "NoCell")
  bk_NoExact : ∀ C ∈ excD, ∀ aC, PySem.W.nsIn K mainGlobals C = some (some (.ref aC)) → PySem.W.kitOne K (.ref aC) (cvG mg "NoExact") = some (subX C "NoExact")
  bk_NoLayer : ∀ C ∈ excD, ∀ aC, PySem.W.nsIn K mainGlobals C = some (some (.ref aC)) → PySem.W.kitOne K (.ref aC) (cvG mg "NoLayer") = some (subX C "NoLayer")
  bk_NoName : ∀ C ∈ excD, ∀ aC, PySem.W.nsIn K mainGlobals C = some (some (.ref aC)) → PySem.W.kitOne K (.ref aC) (cvG mg "NoName") = some (subX C "NoName")
  bk_NoPaper : ∀ C ∈ excD, ∀ aC, PySem.W.nsIn K mainGlobals C = some (some (.ref aC)) → PySem.W.kitOne K (.ref aC) (cvG mg "NoPaper") = some (subX C "NoPaper")
  bk_NoRatio : ∀ C ∈ excD, ∀ aC, PySem.W.nsIn K mainGlobals C = some (some (.ref aC)) → PySem.W.kitOne K (.ref aC) (cvG mg "NoRatio") = some (subX C "NoRatio")
  bk_NoRow : ∀ C ∈ excD, ∀ aC, PySem.W.nsIn K mainGlobals C = some (some (.ref aC)) → PySem.W.kitOne K (.ref aC) (cvG mg "NoRow") = some (subX C "NoRow")
  bk_NoSide : ∀ C ∈ excD, ∀ aC, PySem.W.nsIn K mainGlobals C = some (some (.ref aC)) → PySem.W.kitOne K (.ref aC) (cvG mg "NoSide") = some (subX C "NoSide")
  bk_NoStep : ∀ C ∈ excD, ∀ aC, PySem.W.nsIn K mainGlobals C = some (some (.ref aC)) → PySem.W.kitOne K (.ref aC) (cvG mg "NoStep") = some (subX C "NoStep")
  bk_NoText : ∀ C ∈ excD, ∀ aC, PySem.W.nsIn K mainGlobals C = some (some (.ref aC)) → PySem.W.kitOne K (.ref aC) (cvG mg "NoText") = some (subX C "NoText")
  bk_ValueError : ∀ C ∈ excD, ∀ aC, PySem.W.nsIn K mainGlobals C = some (some (.ref aC)) → PySem.W.kitOne K (.ref aC) (cvG mg "ValueError") = some (subX C "ValueError")
  bk_ZeroError : ∀ C ∈ excD, ∀ aC, PySem.W.nsIn K mainGlobals C = some (some (.ref aC)) → PySem.W.kitOne K (.ref aC) (cvG mg "ZeroError") = some (subX C "ZeroError")
  be_InkError : ∀ C ∈ excD, ∀ aC, PySem.W.nsIn K mainGlobals C = some (some (.ref aC)) → PySem.W.exmOne K (.ref aC) (cvG mg "InkError") = some (subX C "InkError")
  be_LostError : ∀ C ∈ excD, ∀ aC, PySem.W.nsIn K mainGlobals C = some (some (.ref aC)) → PySem.W.exmOne K (.ref aC) (cvG mg "LostError") = some (subX C "LostError")
  tn_InkError : TnF mg "InkError"
  tn_LookupError : TnF mg "LookupError"
  tn_LostError : TnF mg "LostError"
  tn_NoCell : TnF mg "NoCell"
  tn_NoExact : TnF mg "NoExact"
  tn_NoLayer : TnF mg "NoLayer"
  tn_NoName : TnF mg "NoName"
  tn_NoPaper : TnF mg "NoPaper"
  tn_NoRatio : TnF mg "NoRatio"
  tn_NoRow : TnF mg "NoRow"
  tn_NoSide : TnF mg "NoSide"
  tn_NoStep : TnF mg "NoStep"
  tn_NoText : TnF mg "NoText"
  tn_ValueError : TnF mg "ValueError"
  tn_ZeroError : TnF mg "ZeroError"
  bh_number : ∀ C ∈ excD, ∀ aC, PySem.W.nsIn K mainGlobals C = some (some (.ref aC)) → PySem.W.findIn K (.ref aC) "number" = some none
  bh_side : ∀ C ∈ excD, ∀ aC, PySem.W.nsIn K mainGlobals C = some (some (.ref aC)) → PySem.W.findIn K (.ref aC) "side" = some none
section
variable {P : Program} {w : World} {K : PySem.W.Frag} {mg : Str → Option Value} {base : Heap}
abbrev s_ring_sides : Stmt := topS 15
theorem sc_ring_sides : FnScope n_ring_sides ["ring"] (defScope s_ring_sides) := ⟨rfl, rfl, rfl, by decide +kernel, rfl, by decide +kernel, by decide +kernel⟩
theorem ok_ring_sides (B : Bi K mg) (T : Tx K mg "ring_sides" s_ring_sides)  : Df P w K mg base "ring_sides" ["ring"] 1 g_ring_sides :=
  Df.of T sc_ring_sides (fun _ _ _ _ _ _ us hl => match us, hl with | [_], _ => rfl) l_ring_sides (fun f cdv A outer s H E hr hG =>
  have nd := sc_ring_sides.nd
  (dss_one (ds_ret (de_listZs rfl B.b_list B.b_zip (da_cons (de_var 0) (da_cons (de_op o_add (de_slice (de_var 0) (do_some de_int) do_none) (de_slice (de_var 0) do_none (do_some de_int))) da_nil)))))) h_ring_sides
abbrev s_sides_of : Stmt := topS 16
theorem sc_sides_of : FnScope n_sides_of ["path"] (defScope s_sides_of) := ⟨rfl, rfl, rfl, by decide +kernel, rfl, by decide +kernel, by decide +kernel⟩
theorem ok_sides_of (B : Bi K mg) (T : Tx K mg "sides_of" s_sides_of) (d_ring_sides : Df P w K mg base "ring_sides" ["ring"] 1 g_ring_sides) : Df P w K mg base "sides_of" ["path"] 2 g_sides_of :=
  Df.of T sc_sides_of (fun _ _ _ _ _ _ us hl => match us, hl with | [_], _ => rfl) l_sides_of (fun f cdv A outer s H E hr hG =>
  have nd := sc_sides_of.nd
  (dss_cons (ds_set 1 nd (de_lstN da_nil))
  (dss_cons (ds_for (passes_of rfl) rfl (di_items (de_var 0)) (dg_nm 2 nd) (dss_one (ds_expr (de_mtL PySem.F.slot_list_extend PySem.F.type_list_extend m_extend (de_var 1) (da_cons (de_call d_ring_sides (hr.mono (by decide)) hG (takes_of rfl rfl rfl rfl) (da_cons (de_var 2) da_nil)) da_nil)))))
  (dss_one (ds_ret (de_callT c_tup B.b_tuple bt_tuple (da_cons (de_var 1) da_nil))))))) h_sides_of
abbrev s_side_of : Stmt := topS 17
theorem sc_side_of : FnScope n_side_of ["path", "number"] (defScope s_side_of) := ⟨rfl, rfl, rfl, by decide +kernel, rfl, by decide +kernel, by decide +kernel⟩
theorem ok_side_of (B : Bi K mg) (T : Tx K mg "side_of" s_side_of) (d_sides_of : Df P w K mg base "sides_of" ["path"] 2 g_sides_of) : Df P w K mg base "side_of" ["path", "number"] 3 g_side_of :=
  Df.of T sc_side_of (fun _ _ _ _ _ _ us hl => match us, hl with | [_, _], _ => rfl) l_side_of (fun f cdv A outer s H E hr hG =>
  have nd := sc_side_of.nd
  (dss_cons (ds_set 2 nd (de_call d_sides_of (hr.mono (by decide)) hG (takes_of rfl rfl rfl rfl) (da_cons (de_var 0) da_nil)))
  (dss_cons (ds_if (PW.pt (dw_or (dt_cmp o_lt (de_var 1) de_int) (dw_or1 (dt_cmp o_ge (de_var 1) (de_callB c_len B.b_len bt_len (da_cons (de_var 2) da_nil)))))) (dss_one (ds_raise (B.x_NoSide _ _ _) rfl (hr.mono (by decide)) (takes_of rfl rfl rfl rfl) (da_cons (de_var 1) da_nil))) dss_nil)
  (dss_one (ds_ret (de_ix (de_var 2) (de_var 1))))))) h_side_of
abbrev s_each_point : Stmt := topS 19
theorem sc_each_point : FnScope n_each_point ["path", "turn"] (defScope s_each_point) := ⟨rfl, rfl, rfl, by decide +kernel, rfl, by decide +kernel, by decide +kernel⟩
theorem ok_each_point (B : Bi K mg) (T : Tx K mg "each_point" s_each_point)  : DfH P w K mg base "each_point" ["path", "turn"] 1 2 g_each_point :=
  DfH.of T sc_each_point (fun _ _ _ _ _ _ us hl => match us, hl with | [_, _], _ => rfl) l_each_point (fun F ws cs φ f cdv A outer s H E hr hG ev =>
  have nd := sc_each_point.nd
  (dss_one (ds_ret (de_callT c_tup B.b_tuple bt_tuple (da_cons (de_lc (own := [("ring", 2)]) rfl nd (di_items (de_var 0)) (blkOk_by (by show blkC n_each_point (defScope s_each_point) _ _ = true; decide +kernel)) (by decide) (fun _ _ _ _ _ => (dg_nm 2 nd)) (fun _ _ _ _ _ => dts_nil) (fun _ _ _ _ _ => (de_callT c_tup B.b_tuple bt_tuple (da_cons (de_lc (own := [("x", 3), ("y", 4)]) rfl nd (di_items (de_var 2)) (blkOk_by (by kernel_rfl)) (by decide) (fun _ _ _ _ _ => (dg_tup rfl (dgs_cons (dg_nm 3 nd) (dgs_cons (dg_nm 4 nd) dgs_nil)) (pl_of 2))) (fun _ _ _ _ _ => dts_nil) (fun _ _ _ _ _ => (de_callC ev (hr.mono (by decide)) hG takes0 (de_var 1) (da_cons (de_var 3) (da_cons (de_var 4) da_nil))))) da_nil)))) da_nil))))) h_each_point
abbrev s_shifted : Stmt := topS 20
theorem sc_shifted : FnScope n_shifted ["path", "x", "y"] (defScope s_shifted) := ⟨rfl, rfl, rfl, by decide +kernel, rfl, by decide +kernel, by decide +kernel⟩
theorem ok_shifted (B : Bi K mg) {c : Addr} (MK : Mk mg "shifted" base c) (a_each_point : ∀ b, BE base b → DfH P w K mg b "each_point" ["path", "turn"] 1 2 g_each_point) (T : TxC K mg "shifted" s_shifted c) : Df P w K mg base "shifted" ["path", "x", "y"] 3 g_shifted :=
  Df.ofC T sc_shifted (fun _ _ _ _ _ _ us hl => match us, hl with | [_, _, _], _ => rfl) l_shifted (fun f A outer s H E hr hG =>
  have nd := sc_shifted.nd
  (dss_one (ds_ret (de_callH a_each_point (hr.mono (by decide)) hG (takes_of rfl rfl rfl rfl) (fun b hb F lm => by obtain ⟨_, e, _⟩ := lm; cases F; cases e; exact LOk.mono (LOk.of (k := 0) (N := n_shifted_lam1) (ps := ["a", "b"]) (fr := ["x", "y"]) (te := te_shifted_lam1) (nscope_by (by dsimp only; decide +kernel)) (fun _ _ us hl => match us, hl with | [_, _], _ => rfl) l_shifted_lam1 (fun f A outer s H E hr hG => (de_tup (da_cons (de_op o_add (de_var 0) (de_var 2)) (da_cons (de_op o_add (de_var 1) (de_var 3)) da_nil)))) h_shifted_lam1) (by decide)) (hfr_of (fr := ["x", "y"]) (by show ndefB (defScope s_shifted) _ ["x", "y"] = true; decide +kernel) (fun _ => rfl)) rfl rfl rfl (dal_cons (de_var 0) (dal_lam (lamAt_of (fr := ["x", "y"]) MK rfl rfl rfl (by show ndefB (defScope s_shifted) _ ["x", "y"] = true; decide +kernel)))))))) h_shifted
abbrev s_mirrored : Stmt := topS 21
theorem sc_mirrored : FnScope n_mirrored ["path"] (defScope s_mirrored) := ⟨rfl, rfl, rfl, by decide +kernel, rfl, by decide +kernel, by decide +kernel⟩
theorem ok_mirrored (B : Bi K mg) {c : Addr} (MK : Mk mg "mirrored" base c) (a_each_point : ∀ b, BE base b → DfH P w K mg b "each_point" ["path", "turn"] 1 2 g_each_point) (T : TxC K mg "mirrored" s_mirrored c) : Df P w K mg base "mirrored" ["path"] 3 g_mirrored :=
  Df.ofC T sc_mirrored (fun _ _ _ _ _ _ us hl => match us, hl with | [_], _ => rfl) l_mirrored (fun f A outer s H E hr hG =>
  have nd := sc_mirrored.nd
  (dss_one (ds_ret (de_callH a_each_point (hr.mono (by decide)) hG (takes_of rfl rfl rfl rfl) (fun b hb F lm => by obtain ⟨_, e, _⟩ := lm; cases F; cases e; exact LOk.mono (LOk.of (k := 0) (N := n_mirrored_lam1) (ps := ["a", "b"]) (fr := []) (te := te_mirrored_lam1) (nscope_by (by dsimp only; decide +kernel)) (fun _ _ us hl => match us, hl with | [_, _], _ => rfl) l_mirrored_lam1 (fun f A outer s H E hr hG => (de_tup (da_cons (de_op o_sub de_int (de_var 0)) (da_cons (de_var 1) da_nil)))) h_mirrored_lam1) (by decide)) (hfr_of (fr := []) (by show ndefB (defScope s_mirrored) _ [] = true; decide +kernel) (fun _ => rfl)) rfl rfl rfl (dal_cons (de_var 0) (dal_lam (lamAt_of (fr := []) MK rfl rfl rfl (by show ndefB (defScope s_mirrored) _ [] = true; decide +kernel)))))))) h_mirrored
abbrev s_reversed_path : Stmt := topS 22
theorem sc_reversed_path : FnScope n_reversed_path ["path"] (defScope s_reversed_path) := ⟨rfl, rfl, rfl, by decide +kernel, rfl, by decide +kernel, by decide +kernel⟩
theorem ok_reversed_path (B : Bi K mg) (T : Tx K mg "reversed_path" s_reversed_path)  : Df P w K mg base "reversed_path" ["path"] 1 g_reversed_path :=
  Df.of T sc_reversed_path (fun _ _ _ _ _ _ us hl => match us, hl with | [_], _ => rfl) l_reversed_path (fun f cdv A outer s H E hr hG =>
  have nd := sc_reversed_path.nd
  (dss_one (ds_ret (de_callT c_tup B.b_tuple bt_tuple (da_cons (de_lc (own := [("ring", 1)]) rfl nd (di_items (de_var 0)) (blkOk_by (by show blkC n_reversed_path (defScope s_reversed_path) _ _ = true; decide +kernel)) (by decide) (fun _ _ _ _ _ => (dg_nm 1 nd)) (fun _ _ _ _ _ => dts_nil) (fun _ _ _ _ _ => (de_op o_add (de_slice (de_var 1) do_none (do_some de_int)) (de_rev0 (de_var 1))))) da_nil))))) h_reversed_path
abbrev s_put : Stmt := topS 23
theorem sc_put : FnScope n_put ["things", "at", "thing"] (defScope s_put) := ⟨rfl, rfl, rfl, by decide +kernel, rfl, by decide +kernel, by decide +kernel⟩
theorem ok_put (B : Bi K mg) (T : Tx K mg "put" s_put)  : Df P w K mg base "put" ["things", "at", "thing"] 1 g_put :=
  Df.of T sc_put (fun _ _ _ _ _ _ us hl => match us, hl with | [_, _, _], _ => rfl) l_put (fun f cdv A outer s H E hr hG =>
  have nd := sc_put.nd
  (dss_one (ds_ret (de_op o_add (de_op o_add (de_slice (de_var 0) do_none (do_some (de_var 1))) (de_tup (da_cons (de_var 2) da_nil))) (de_slice (de_var 0) (do_some (de_op o_add (de_var 1) de_int)) do_none))))) h_put
abbrev s_begun_at : Stmt := topS 24
theorem sc_begun_at : FnScope n_begun_at ["path", "ring", "at"] (defScope s_begun_at) := ⟨rfl, rfl, rfl, by decide +kernel, rfl, by decide +kernel, by decide +kernel⟩
theorem ok_begun_at (B : Bi K mg) (T : Tx K mg "begun_at" s_begun_at) (d_put : Df P w K mg base "put" ["things", "at", "thing"] 1 g_put) : Df P w K mg base "begun_at" ["path", "ring", "at"] 3 g_begun_at :=
  Df.of T sc_begun_at (fun _ _ _ _ _ _ us hl => match us, hl with | [_, _, _], _ => rfl) l_begun_at (fun f cdv A outer s H E hr hG =>
  have nd := sc_begun_at.nd
  (dss_cons (ds_if (PW.pt (dw_or (dt_cmp o_lt (de_var 1) de_int) (dw_or1 (dt_cmp o_ge (de_var 1) (de_callB c_len B.b_len bt_len (da_cons (de_var 0) da_nil)))))) (dss_one (ds_raise (B.x_NoStep _ _ _) rfl (hr.mono (by decide)) (takes_of rfl rfl rfl rfl) (da_cons (de_var 1) da_nil))) dss_nil)
  (dss_cons (ds_set 3 nd (de_ix (de_var 0) (de_var 1)))
  (dss_cons (ds_if (PW.pt (dw_or (dt_cmp o_lt (de_var 2) de_int) (dw_or1 (dt_cmp o_ge (de_var 2) (de_callB c_len B.b_len bt_len (da_cons (de_var 3) da_nil)))))) (dss_one (ds_raise (B.x_NoStep _ _ _) rfl (hr.mono (by decide)) (takes_of rfl rfl rfl rfl) (da_cons (de_var 2) da_nil))) dss_nil)
  (dss_one (ds_ret (de_call d_put (hr.mono (by decide)) hG (takes_of rfl rfl rfl rfl) (da_cons (de_var 0) (da_cons (de_var 1) (da_cons (de_op o_add (de_slice (de_var 3) (do_some (de_var 2)) do_none) (de_slice (de_var 3) do_none (do_some (de_var 2)))) da_nil)))))))))) h_begun_at
abbrev s_with_point : Stmt := topS 25
theorem sc_with_point : FnScope n_with_point ["path", "number"] (defScope s_with_point) := ⟨rfl, rfl, rfl, by decide +kernel, rfl, by decide +kernel, by decide +kernel⟩
theorem ok_with_point (B : Bi K mg) (T : Tx K mg "with_point" s_with_point) (d_side_of : Df P w K mg base "side_of" ["path", "number"] 3 g_side_of) (d_put : Df P w K mg base "put" ["things", "at", "thing"] 1 g_put) : Df P w K mg base "with_point" ["path", "number"] 4 g_with_point :=
  Df.of T sc_with_point (fun _ _ _ _ _ _ us hl => match us, hl with | [_, _], _ => rfl) l_with_point (fun f cdv A outer s H E hr hG =>
  have nd := sc_with_point.nd
  (dss_cons (ds_set 2 nd (de_call d_side_of (hr.mono (by decide)) hG (takes_of rfl rfl rfl rfl) (da_cons (de_var 0) (da_cons (de_var 1) da_nil))))
  (dss_cons (ds_par 4 5 rfl nd (da_cons (de_op o_add (de_ix (de_ix (de_var 2) de_int) de_int) (de_ix (de_ix (de_var 2) de_int) de_int)) (da_cons (de_op o_add (de_ix (de_ix (de_var 2) de_int) de_int) (de_ix (de_ix (de_var 2) de_int) de_int)) da_nil)))
  (dss_cons (ds_if (PW.pt (dw_or (dt_cmp (o_eq hr.units) (de_op o_mod (de_var 4) de_int) de_int) (dw_or1 (dt_cmp (o_eq hr.units) (de_op o_mod (de_var 5) de_int) de_int)))) (dss_one (ds_raise (B.x_NoExact _ _ _) rfl (hr.mono (by decide)) (takes_of rfl rfl rfl rfl) (da_cons (de_var 2) da_nil))) dss_nil)
  (dss_cons (ds_par 6 7 rfl nd (da_cons de_int (da_cons (de_var 1) da_nil)))
  (dss_cons (ds_while (passes_of rfl) (dt_cmp o_ge (de_var 7) (de_callB c_len B.b_len bt_len (da_cons (de_ix (de_var 0) (de_var 6)) da_nil))) (dss_cons (ds_set 7 nd (de_op o_sub (de_var 7) (de_callB c_len B.b_len bt_len (da_cons (de_ix (de_var 0) (de_var 6)) da_nil))))
  (dss_one (ds_set 6 nd (de_op o_add (de_var 6) de_int)))))
  (dss_cons (ds_set 3 nd (de_ix (de_var 0) (de_var 6)))
  (dss_one (ds_ret (de_call d_put (hr.mono (by decide)) hG (takes_of rfl rfl rfl rfl) (da_cons (de_var 0) (da_cons (de_var 6) (da_cons (de_op o_add (de_op o_add (de_slice (de_var 3) do_none (do_some (de_op o_add (de_var 7) de_int))) (de_tup (da_cons (de_tup (da_cons (de_op o_fdiv (de_var 4) de_int) (da_cons (de_op o_fdiv (de_var 5) de_int) da_nil))) da_nil))) (de_slice (de_var 3) (do_some (de_op o_add (de_var 7) de_int)) do_none)) da_nil))))))))))))) h_with_point
abbrev s_joined_paths : Stmt := topS 26
theorem sc_joined_paths : FnScope n_joined_paths ["one", "other"] (defScope s_joined_paths) := ⟨rfl, rfl, rfl, by decide +kernel, rfl, by decide +kernel, by decide +kernel⟩
theorem ok_joined_paths (B : Bi K mg) (T : Tx K mg "joined_paths" s_joined_paths)  : Df P w K mg base "joined_paths" ["one", "other"] 1 g_joined_paths :=
  Df.of T sc_joined_paths (fun _ _ _ _ _ _ us hl => match us, hl with | [_, _], _ => rfl) l_joined_paths (fun f cdv A outer s H E hr hG =>
  have nd := sc_joined_paths.nd
  (dss_one (ds_ret (de_op o_add (de_var 0) (de_var 1))))) h_joined_paths
abbrev s__law_feed : Stmt := topS 28
theorem sc__law_feed : FnScope n__law_feed ["script"] (defScope s__law_feed) := ⟨rfl, rfl, rfl, by decide +kernel, rfl, by decide +kernel, by decide +kernel⟩
theorem ok__law_feed (B : Bi K mg) (T : Tx K mg "_law_feed" s__law_feed)  : Df P w K mg base "_law_feed" ["script"] 1 g__law_feed :=
  Df.of T sc__law_feed (fun _ _ _ _ _ _ us hl => match us, hl with | [_], _ => rfl) l__law_feed (fun f cdv A outer s H E hr hG =>
  have nd := sc__law_feed.nd
  (dss_one (ds_ret (de_lstN (da_cons (de_slice (de_var 0) do_none (do_some de_int)) (da_cons de_int (da_cons de_int (da_cons de_int da_nil)))))))) h__law_feed
abbrev s__law_draw : Stmt := topS 29
theorem sc__law_draw : FnScope n__law_draw ["feed", "many"] (defScope s__law_draw) := ⟨rfl, rfl, rfl, by decide +kernel, rfl, by decide +kernel, by decide +kernel⟩
theorem ok__law_draw (B : Bi K mg) (T : Tx K mg "_law_draw" s__law_draw)  : Df P w K mg base "_law_draw" ["feed", "many"] 1 g__law_draw :=
  Df.of T sc__law_draw (fun _ _ _ _ _ _ us hl => match us, hl with | [_, _], _ => rfl) l__law_draw (fun f cdv A outer s H E hr hG =>
  have nd := sc__law_draw.nd
  (dss_cons (ds_sub (de_op o_add (de_ix (de_var 0) de_int) de_int) (de_var 0) de_int)
  (dss_cons (ds_if (dt_cmp o_gt (de_ix (de_var 0) de_int) de_int) (dss_cons (ds_set 4 nd (de_op o_mod (de_ix (de_var 0) de_int) (de_var 1)))
  (dss_cons (ds_sub (de_op o_fdiv (de_ix (de_var 0) de_int) (de_var 1)) (de_var 0) de_int)
  (dss_one (ds_ret (de_var 4))))) dss_nil)
  (dss_cons (ds_set 2 nd de_int)
  (dss_cons (ds_if (dt_cmp (o_ne hr.units) (de_ix (de_var 0) de_int) (de_lst da_nil)) (dss_one (ds_set 2 nd (de_ix (de_ix (de_var 0) de_int) (de_op o_mod (de_ix (de_var 0) de_int) (de_callB c_len B.b_len bt_len (da_cons (de_ix (de_var 0) de_int) da_nil)))))) dss_nil)
  (dss_cons (ds_sub (de_op o_add (de_ix (de_var 0) de_int) de_int) (de_var 0) de_int)
  (dss_cons (ds_if (PW.pt (dw_and (dt_cmp o_ge (de_var 2) (de_op o_pow de_int de_int)) (dw_and1 (dt_cmp o_le (de_ix (de_var 0) de_int) (de_callB c_len B.b_len bt_len (da_cons (de_ix (de_var 0) de_int) da_nil)))))) (dss_cons (ds_sub (de_op o_fdiv (de_var 2) (de_var 1)) (de_var 0) de_int)
  (dss_one (ds_ret (de_op o_mod (de_var 2) (de_var 1))))) dss_nil)
  (dss_cons (ds_set 3 nd (de_op o_mod (de_op o_pow (de_op o_add (de_op o_add (de_op o_mod (de_var 2) de_int) (de_op o_mul de_int (de_ix (de_var 0) de_int))) de_int) de_int) de_int))
  (dss_one (ds_ret (de_op o_mod (de_op o_fdiv (de_op o_mod (de_op o_pow (de_op o_add (de_var 3) (de_op o_mul de_int (de_ix (de_var 0) de_int))) de_int) de_int) de_int) (de_var 1)))))))))))) h__law_draw
abbrev s__law_point : Stmt := topS 30
theorem sc__law_point : FnScope n__law_point ["feed", "far"] (defScope s__law_point) := ⟨rfl, rfl, rfl, by decide +kernel, rfl, by decide +kernel, by decide +kernel⟩
theorem ok__law_point (B : Bi K mg) (T : Tx K mg "_law_point" s__law_point) (d__law_draw : Df P w K mg base "_law_draw" ["feed", "many"] 1 g__law_draw) : Df P w K mg base "_law_point" ["feed", "far"] 2 g__law_point :=
  Df.of T sc__law_point (fun _ _ _ _ _ _ us hl => match us, hl with | [_, _], _ => rfl) l__law_point (fun f cdv A outer s H E hr hG =>
  have nd := sc__law_point.nd
  (dss_cons (ds_if (dt_tru (de_var 1)) (dss_cons (ds_setLc 2 (own := [("k", 3)]) rfl nd (di_rng1 B.b_range (da_cons de_int da_nil)) (blkOk_by (by show blkC n__law_point (defScope s__law_point) _ _ = true; decide +kernel)) (by decide) (fun _ _ _ _ _ => (dg_nm 3 nd)) (fun _ _ _ _ _ => dts_nil) (fun _ _ _ _ _ => (de_ix (de_lst (da_cons (de_un o_neg de_int) (da_cons de_int (da_cons de_int (da_cons (de_op o_sub (de_call d__law_draw (hr.mono (by decide)) hG takes0 (da_cons (de_var 0) (da_cons de_int da_nil))) de_int) da_nil))))) (de_call d__law_draw (hr.mono (by decide)) hG takes0 (da_cons (de_var 0) (da_cons de_int da_nil))))))
  (dss_one (ds_ret (de_callT c_tup B.b_tuple bt_tuple (da_cons (de_var 2) da_nil))))) dss_nil)
  (dss_one (ds_ret (de_tup (da_cons (de_op o_sub (de_call d__law_draw (hr.mono (by decide)) hG (takes_of rfl rfl rfl rfl) (da_cons (de_var 0) (da_cons de_int da_nil))) de_int) (da_cons (de_op o_sub (de_call d__law_draw (hr.mono (by decide)) hG (takes_of rfl rfl rfl rfl) (da_cons (de_var 0) (da_cons de_int da_nil))) de_int) da_nil))))))) h__law_point
abbrev s__law_path : Stmt := topS 31
theorem sc__law_path : FnScope n__law_path ["feed"] (defScope s__law_path) := ⟨rfl, rfl, rfl, by decide +kernel, rfl, by decide +kernel, by decide +kernel⟩
theorem ok__law_path (B : Bi K mg) (T : Tx K mg "_law_path" s__law_path) (d__law_draw : Df P w K mg base "_law_draw" ["feed", "many"] 1 g__law_draw) (d__law_point : Df P w K mg base "_law_point" ["feed", "far"] 2 g__law_point) : Df P w K mg base "_law_path" ["feed"] 3 g__law_path :=
  Df.of T sc__law_path (fun _ _ _ _ _ _ us hl => match us, hl with | [_], _ => rfl) l__law_path (fun f cdv A outer s H E hr hG =>
  have nd := sc__law_path.nd
  (dss_cons (ds_set 1 nd (de_cmp (o_eq hr.units) (de_call d__law_draw (hr.mono (by decide)) hG (takes_of rfl rfl rfl rfl) (da_cons (de_var 0) (da_cons de_int da_nil))) de_int))
  (dss_cons (ds_set 2 nd (de_lstN da_nil))
  (dss_cons (ds_for (passes_of rfl) rfl (di_rng1 B.b_range (da_cons (de_ix (de_lst (da_cons de_int (da_cons de_int (da_cons de_int (da_cons de_int (da_cons de_int (da_cons de_int da_nil))))))) (de_call d__law_draw (hr.mono (by decide)) hG (takes_of rfl rfl rfl rfl) (da_cons (de_var 0) (da_cons de_int da_nil)))) da_nil)) (dg_nm 3 nd) (dss_cons (ds_set 4 nd (de_ix (de_lst (da_cons de_int (da_cons de_int (da_cons de_int (da_cons de_int (da_cons de_int (da_cons de_int (da_cons de_int da_nil)))))))) (de_call d__law_draw (hr.mono (by decide)) hG (takes_of rfl rfl rfl rfl) (da_cons (de_var 0) (da_cons de_int da_nil)))))
  (dss_one (ds_expr (de_mtL PySem.F.slot_list_append PySem.F.type_list_append m_append (de_var 2) (da_cons (de_callT c_tup B.b_tuple bt_tuple (da_cons (de_lc (own := [("j", 5)]) rfl nd (di_rng1 B.b_range (da_cons (de_var 4) da_nil)) (blkOk_by (by show blkC n__law_path (defScope s__law_path) _ _ = true; decide +kernel)) (by decide) (fun _ _ _ _ _ => (dg_nm 5 nd)) (fun _ _ _ _ _ => dts_nil) (fun _ _ _ _ _ => (de_call d__law_point (hr.mono (by decide)) hG takes0 (da_cons (de_var 0) (da_cons (de_var 1) da_nil))))) da_nil)) da_nil))))))
  (dss_one (ds_ret (de_callT c_tup B.b_tuple bt_tuple (da_cons (de_var 2) da_nil)))))))) h__law_path
abbrev s__law_sides : Stmt := topS 32
theorem sc__law_sides : FnScope n__law_sides ["path"] (defScope s__law_sides) := ⟨rfl, rfl, rfl, by decide +kernel, rfl, by decide +kernel, by decide +kernel⟩
theorem ok__law_sides (B : Bi K mg) (T : Tx K mg "_law_sides" s__law_sides)  : Df P w K mg base "_law_sides" ["path"] 1 g__law_sides :=
  Df.of T sc__law_sides (fun _ _ _ _ _ _ us hl => match us, hl with | [_], _ => rfl) l__law_sides (fun f cdv A outer s H E hr hG =>
  have nd := sc__law_sides.nd
  (dss_cons (ds_set 1 nd (de_lstN da_nil))
  (dss_cons (ds_for (passes_of rfl) rfl (di_items (de_var 0)) (dg_nm 2 nd) (dss_one (ds_for (passes_of rfl) rfl (di_rng1 B.b_range (da_cons (de_callB c_len B.b_len bt_len (da_cons (de_var 2) da_nil)) da_nil)) (dg_nm 3 nd) (dss_one (ds_expr (de_mtL PySem.F.slot_list_append PySem.F.type_list_append m_append (de_var 1) (da_cons (de_tup (da_cons (de_ix (de_var 2) (de_var 3)) (da_cons (de_ifExp (dt_cmp o_lt (de_op o_add (de_var 3) de_int) (de_callB c_len B.b_len bt_len (da_cons (de_var 2) da_nil))) (de_ix (de_var 2) (de_op o_add (de_var 3) de_int)) (de_ix (de_var 2) de_int)) da_nil))) da_nil)))))))
  (dss_one (ds_ret (de_var 1)))))) h__law_sides
abbrev s__law_each : Stmt := topS 33
theorem sc__law_each : FnScope n__law_each ["path", "turn"] (defScope s__law_each) := ⟨rfl, rfl, rfl, by decide +kernel, rfl, by decide +kernel, by decide +kernel⟩
theorem ok__law_each (B : Bi K mg) (T : Tx K mg "_law_each" s__law_each)  : DfH P w K mg base "_law_each" ["path", "turn"] 1 2 g__law_each :=
  DfH.of T sc__law_each (fun _ _ _ _ _ _ us hl => match us, hl with | [_, _], _ => rfl) l__law_each (fun F ws cs φ f cdv A outer s H E hr hG ev =>
  have nd := sc__law_each.nd
  (dss_cons (ds_set 2 nd (de_lstN da_nil))
  (dss_cons (ds_for (passes_of rfl) rfl (di_items (de_var 0)) (dg_nm 3 nd) (dss_one (ds_expr (de_mtL PySem.F.slot_list_append PySem.F.type_list_append m_append (de_var 2) (da_cons (de_callT c_tup B.b_tuple bt_tuple (da_cons (de_lc (own := [("point", 4)]) rfl nd (di_items (de_var 3)) (blkOk_by (by show blkC n__law_each (defScope s__law_each) _ _ = true; decide +kernel)) (by decide) (fun _ _ _ _ _ => (dg_nm 4 nd)) (fun _ _ _ _ _ => dts_nil) (fun _ _ _ _ _ => (de_callC ev (hr.mono (by decide)) hG takes0 (de_var 1) (da_cons (de_var 4) da_nil)))) da_nil)) da_nil)))))
  (dss_one (ds_ret (de_callT c_tup B.b_tuple bt_tuple (da_cons (de_var 2) da_nil))))))) h__law_each
abbrev s__law_back : Stmt := topS 34
theorem sc__law_back : FnScope n__law_back ["ring"] (defScope s__law_back) := ⟨rfl, rfl, rfl, by decide +kernel, rfl, by decide +kernel, by decide +kernel⟩
theorem ok__law_back (B : Bi K mg) (T : Tx K mg "_law_back" s__law_back)  : Df P w K mg base "_law_back" ["ring"] 1 g__law_back :=
  Df.of T sc__law_back (fun _ _ _ _ _ _ us hl => match us, hl with | [_], _ => rfl) l__law_back (fun f cdv A outer s H E hr hG =>
  have nd := sc__law_back.nd
  (dss_one (ds_ret (de_callT c_tup B.b_tuple bt_tuple (da_cons (de_lc (own := [("k", 1)]) rfl nd (di_rng1 B.b_range (da_cons (de_callB c_len B.b_len bt_len (da_cons (de_var 0) da_nil)) da_nil)) (blkOk_by (by show blkC n__law_back (defScope s__law_back) _ _ = true; decide +kernel)) (by decide) (fun _ _ _ _ _ => (dg_nm 1 nd)) (fun _ _ _ _ _ => dts_nil) (fun _ _ _ _ _ => (de_ix (de_var 0) (de_op o_sub de_int (de_var 1))))) da_nil))))) h__law_back
abbrev s__law_refusal : Stmt := topS 35
theorem sc__law_refusal : FnScope n__law_refusal ["e"] (defScope s__law_refusal) := ⟨rfl, rfl, rfl, by decide +kernel, rfl, by decide +kernel, by decide +kernel⟩
theorem ok__law_refusal (B : Bi K mg) (T : Tx K mg "_law_refusal" s__law_refusal) : ∀ (C : Str), C ∈ excD → ∀ (aC xa xd : Addr) (oe : Obj), PySem.W.nsIn K mainGlobals C = some (some (.ref aC)) → Zc (.ref aC) (some xd) oe → (∃ vs, oe.data = .fields vs) → DfX P w K mg base "_law_refusal" ["e"] 1 (gX (tb__law_refusal C xa xd) n__law_refusal xa) xa oe := fun C hC aC xa xd oe hns hz hf =>
  DfX.of T sc__law_refusal (fun _ _ _ _ _ _ us hl => match us, hl with | [_], _ => rfl) (fun f cdv A outer s H hr hG =>
  have nd := sc__law_refusal.nd
  (dss_cons (ds_set 1 nd (de_isXT 0 B.b_isinstance hz hf (B.bx C hC aC hns).1 (TN.cons rfl B.tn_ZeroError.1 B.tn_ZeroError.2 (by decide) (TN.cons rfl B.tn_NoCell.1 B.tn_NoCell.2 (by decide) (TN.cons rfl B.tn_NoLayer.1 B.tn_NoLayer.2 (by decide) (TN.cons rfl B.tn_NoName.1 B.tn_NoName.2 (by decide) (TN.cons rfl B.tn_NoPaper.1 B.tn_NoPaper.2 (by decide) (TN.cons rfl B.tn_NoRatio.1 B.tn_NoRatio.2 (by decide) (TN.cons rfl B.tn_NoRow.1 B.tn_NoRow.2 (by decide) (TN.cons rfl B.tn_NoText.1 B.tn_NoText.2 (by decide) TN.nil rfl) rfl) rfl) rfl) rfl) rfl) rfl) rfl) (kitAny_cons (B.bk_ZeroError C hC aC hns) (kitAny_cons (B.bk_NoCell C hC aC hns) (kitAny_cons (B.bk_NoLayer C hC aC hns) (kitAny_cons (B.bk_NoName C hC aC hns) (kitAny_cons (B.bk_NoPaper C hC aC hns) (kitAny_cons (B.bk_NoRatio C hC aC hns) (kitAny_cons (B.bk_NoRow C hC aC hns) (kitAny_cons (B.bk_NoText C hC aC hns) kitAny_nil)))))))) (by show (8 : Nat) ≤ sizeLine; decide)))
  (dss_cons (ds_set 2 nd (de_lst (da_cons (de_isX 0 B.b_isinstance hz hf (B.bx C hC aC hns).1 (B.bk_NoStep C hC aC hns) B.tn_NoStep.1 B.tn_NoStep.2) (da_cons (de_isX 0 B.b_isinstance hz hf (B.bx C hC aC hns).1 (B.bk_NoSide C hC aC hns) B.tn_NoSide.1 B.tn_NoSide.2) (da_cons (de_isX 0 B.b_isinstance hz hf (B.bx C hC aC hns).1 (B.bk_NoExact C hC aC hns) B.tn_NoExact.1 B.tn_NoExact.2) da_nil)))))
  (dss_cons (ds_set 3 nd (de_lst (da_cons (de_isX 0 B.b_isinstance hz hf (B.bx C hC aC hns).1 (B.bk_LostError C hC aC hns) B.tn_LostError.1 B.tn_LostError.2) (da_cons (de_isX 0 B.b_isinstance hz hf (B.bx C hC aC hns).1 (B.bk_LookupError C hC aC hns) B.tn_LookupError.1 B.tn_LookupError.2) (da_cons (de_isX 0 B.b_isinstance hz hf (B.bx C hC aC hns).1 (B.bk_InkError C hC aC hns) B.tn_InkError.1 B.tn_InkError.2) (da_cons (de_isX 0 B.b_isinstance hz hf (B.bx C hC aC hns).1 (B.bk_ValueError C hC aC hns) B.tn_ValueError.1 B.tn_ValueError.2) da_nil))))))
  (dss_cons (ds_if (PW.pt (dw_or (dt_tru (de_var 1)) (dw_or (dt_cmp (o_ne hr.units) (de_mtL PySem.F.slot_list_count PySem.F.type_list_count m_count (de_var 2) (da_cons de_bl da_nil)) de_int) (dw_or1 (dt_cmp (o_ne hr.units) (de_var 3) (de_op o_add (de_op o_mul (de_lst (da_cons (de_not (de_ix (de_var 2) de_int)) da_nil)) de_int) (de_op o_mul (de_lst (da_cons (de_ix (de_var 2) de_int) da_nil)) de_int))))))) (dss_one (ds_ret (de_tup (da_cons de_str da_nil)))) dss_nil)
  (dss_cons (ds_if (dt_tru (de_ix (de_var 2) de_int)) (dss_one (ds_ret (de_tup (da_cons de_str (da_cons (de_fldX (B.bx C hC aC hns).2 (B.bh_side C hC aC hns) hz hf (de_var 0)) da_nil))))) dss_nil)
  (dss_one (ds_ret (de_ifExp (dt_tru (de_ix (de_var 2) de_int)) (de_tup (da_cons de_str (da_cons (de_fldX (B.bx C hC aC hns).2 (B.bh_number C hC aC hns) hz hf (de_var 0)) da_nil))) (de_tup (da_cons de_str (da_cons (de_fldX (B.bx C hC aC hns).2 (B.bh_number C hC aC hns) hz hf (de_var 0)) da_nil))))))))))))
abbrev s__law_asked : Stmt := topS 36
theorem sc__law_asked : FnScope n__law_asked ["way", "path", "one", "other"] (defScope s__law_asked) := ⟨rfl, rfl, rfl, by decide +kernel, rfl, by decide +kernel, by decide +kernel⟩
theorem ok__law_asked (B : Bi K mg) (T : Tx K mg "_law_asked" s__law_asked) (d__law_refusal : ∀ (C : Str), C ∈ excD → ∀ (aC xa xd : Addr) (oe : Obj), PySem.W.nsIn K mainGlobals C = some (some (.ref aC)) → Zc (.ref aC) (some xd) oe → (∃ vs, oe.data = .fields vs) → DfX P w K mg base "_law_refusal" ["e"] 1 (gX (tb__law_refusal C xa xd) n__law_refusal xa) xa oe) (d_begun_at : Df P w K mg base "begun_at" ["path", "ring", "at"] 3 g_begun_at) (d_with_point : Df P w K mg base "with_point" ["path", "number"] 4 g_with_point) : Df P w K mg base "_law_asked" ["way", "path", "one", "other"] 5 g__law_asked :=
  Df.of T sc__law_asked (fun _ _ _ _ _ _ us hl => match us, hl with | [_, _, _, _], _ => rfl) l__law_asked (fun f cdv A outer s H E hr hG =>
  have nd := sc__law_asked.nd
  (dss_cons (ds_set 4 nd (de_tup (da_cons de_str da_nil)))
  (dss_cons (ds_tryT (Ds := excD) (catches := (fun C => subX C "LostError" || (subX C "InkError" || (false)))) 5 nd rfl rfl (takes_of rfl rfl rfl rfl) (fun C hC aC hns => tst2 (B.tn_LostError.names rfl (by decide)) (B.tn_InkError.names rfl (by decide)) (exm_any2 (B.be_LostError C hC aC hns) (B.be_InkError C hC aC hns))) (fun W pn xe tk pw => (dss_one (ds_set 4 nd (de_tup (da_cons de_str (da_cons (de_ifExp (dt_cmp (o_eq hr.units) (de_var 0) de_int) (de_call d_begun_at (hr.mono (by decide)) hG tk (da_cons (de_var 1) (da_cons (de_var 2) (da_cons (de_var 3) da_nil)))) (de_call d_with_point (hr.mono (by decide)) hG tk (da_cons (de_var 1) (da_cons (de_var 2) da_nil)))) da_nil)))))) (fun C hC aC xa xd oe pn hns hz hf => (dss_one (ds_set 4 nd (de_callX (d__law_refusal C hC aC xa xd oe hns hz hf) (hr.mono (by decide)) hG (da_cons (de_var 5) da_nil))))))
  (dss_one (ds_ret (de_var 4)))))) h__law_asked
abbrev s__law_begun : Stmt := topS 37
theorem sc__law_begun : FnScope n__law_begun ["path", "one", "other"] (defScope s__law_begun) := ⟨rfl, rfl, rfl, by decide +kernel, rfl, by decide +kernel, by decide +kernel⟩
theorem ok__law_begun (B : Bi K mg) (T : Tx K mg "_law_begun" s__law_begun)  : Df P w K mg base "_law_begun" ["path", "one", "other"] 1 g__law_begun :=
  Df.of T sc__law_begun (fun _ _ _ _ _ _ us hl => match us, hl with | [_, _, _], _ => rfl) l__law_begun (fun f cdv A outer s H E hr hG =>
  have nd := sc__law_begun.nd
  (dss_cons (ds_if (dt_inRng L2.op_notin_rng B.b_range (de_var 1) (de_callB c_len B.b_len bt_len (da_cons (de_var 0) da_nil))) (dss_one (ds_ret (de_tup (da_cons de_str (da_cons (de_var 1) da_nil))))) dss_nil)
  (dss_cons (ds_if (dt_inRng L2.op_notin_rng B.b_range (de_var 2) (de_callB c_len B.b_len bt_len (da_cons (de_ix (de_var 0) (de_var 1)) da_nil))) (dss_one (ds_ret (de_tup (da_cons de_str (da_cons (de_var 2) da_nil))))) dss_nil)
  (dss_cons (ds_set 3 nd (de_ix (de_var 0) (de_var 1)))
  (dss_cons (ds_set 4 nd (de_callB c_len B.b_len bt_len (da_cons (de_var 3) da_nil)))
  (dss_cons (ds_set 5 nd (de_callT c_tup B.b_tuple bt_tuple (da_cons (de_lc (own := [("k", 6)]) rfl nd (di_rng1 B.b_range (da_cons (de_var 4) da_nil)) (blkOk_by (by show blkC n__law_begun (defScope s__law_begun) _ _ = true; decide +kernel)) (by decide) (fun _ _ _ _ _ => (dg_nm 6 nd)) (fun _ _ _ _ _ => dts_nil) (fun _ _ _ _ _ => (de_ix (de_var 3) (de_op o_mod (de_op o_add (de_var 2) (de_var 6)) (de_var 4))))) da_nil)))
  (dss_one (ds_ret (de_tup (da_cons de_str (da_cons (de_callT c_tup B.b_tuple bt_tuple (da_cons (de_lc (own := [("k", 6)]) rfl nd (di_rng1 B.b_range (da_cons (de_callB c_len B.b_len bt_len (da_cons (de_var 0) da_nil)) da_nil)) (blkOk_by (by show blkC n__law_begun (defScope s__law_begun) _ _ = true; decide +kernel)) (by decide) (fun _ _ _ _ _ => (dg_nm 6 nd)) (fun _ _ _ _ _ => dts_nil) (fun _ _ _ _ _ => (de_ifExp (dt_cmp (o_eq hr.units) (de_var 6) (de_var 1)) (de_var 5) (de_ix (de_var 0) (de_var 6))))) da_nil)) da_nil))))))))))) h__law_begun
abbrev s__law_with : Stmt := topS 38
theorem sc__law_with : FnScope n__law_with ["path", "number"] (defScope s__law_with) := ⟨rfl, rfl, rfl, by decide +kernel, rfl, by decide +kernel, by decide +kernel⟩
theorem ok__law_with (B : Bi K mg) (T : Tx K mg "_law_with" s__law_with) (d__law_sides : Df P w K mg base "_law_sides" ["path"] 1 g__law_sides) : Df P w K mg base "_law_with" ["path", "number"] 2 g__law_with :=
  Df.of T sc__law_with (fun _ _ _ _ _ _ us hl => match us, hl with | [_, _], _ => rfl) l__law_with (fun f cdv A outer s H E hr hG =>
  have nd := sc__law_with.nd
  (dss_cons (ds_set 2 nd (de_call d__law_sides (hr.mono (by decide)) hG (takes_of rfl rfl rfl rfl) (da_cons (de_var 0) da_nil)))
  (dss_cons (ds_if (dt_inRng L2.op_notin_rng B.b_range (de_var 1) (de_callB c_len B.b_len bt_len (da_cons (de_var 2) da_nil))) (dss_one (ds_ret (de_tup (da_cons de_str (da_cons (de_var 1) da_nil))))) dss_nil)
  (dss_cons (ds_asg (de_ix (de_var 2) (de_var 1)) (dg_tup rfl (dgs_cons (dg_tup rfl (dgs_cons (dg_nm 9 nd) (dgs_cons (dg_nm 10 nd) dgs_nil)) (pl_of 2)) (dgs_cons (dg_tup rfl (dgs_cons (dg_nm 11 nd) (dgs_cons (dg_nm 12 nd) dgs_nil)) (pl_of 2)) dgs_nil)) (pl_of 2)))
  (dss_cons (ds_if (PW.pt (dw_or (dt_cmp (o_ne hr.units) (de_op o_mod (de_op o_sub (de_var 9) (de_var 11)) de_int) de_int) (dw_or1 (dt_cmp (o_ne hr.units) (de_op o_mod (de_op o_sub (de_var 10) (de_var 12)) de_int) de_int)))) (dss_one (ds_ret (de_tup (da_cons de_str (da_cons (de_ix (de_var 2) (de_var 1)) da_nil))))) dss_nil)
  (dss_cons (ds_set 3 nd (de_tup (da_cons (de_op o_add (de_var 9) (de_op o_fdiv (de_op o_sub (de_var 11) (de_var 9)) de_int)) (da_cons (de_op o_add (de_var 10) (de_op o_fdiv (de_op o_sub (de_var 12) (de_var 10)) de_int)) da_nil))))
  (dss_cons (ds_par 5 6 rfl nd (da_cons (de_lstN da_nil) (da_cons de_int da_nil)))
  (dss_cons (ds_for (passes_of rfl) rfl (di_items (de_var 0)) (dg_nm 4 nd) (dss_cons (ds_set 7 nd (de_lstN da_nil))
  (dss_cons (ds_for (passes_of rfl) rfl (di_items (de_var 4)) (dg_nm 8 nd) (dss_cons (ds_expr (de_mtL PySem.F.slot_list_append PySem.F.type_list_append m_append (de_var 7) (da_cons (de_var 8) da_nil)))
  (dss_cons (ds_if (dt_cmp (o_eq hr.units) (de_var 6) (de_var 1)) (dss_one (ds_expr (de_mtL PySem.F.slot_list_append PySem.F.type_list_append m_append (de_var 7) (da_cons (de_var 3) da_nil)))) dss_nil)
  (dss_one (ds_set 6 nd (de_op o_add (de_var 6) de_int))))))
  (dss_one (ds_expr (de_mtL PySem.F.slot_list_append PySem.F.type_list_append m_append (de_var 5) (da_cons (de_callT c_tup B.b_tuple bt_tuple (da_cons (de_var 7) da_nil)) da_nil)))))))
  (dss_one (ds_ret (de_tup (da_cons de_str (da_cons (de_callT c_tup B.b_tuple bt_tuple (da_cons (de_var 5) da_nil)) da_nil))))))))))))) h__law_with
abbrev s_law : Stmt := topS 39
theorem sc_law : FnScope n_law ["script"] (defScope s_law) := ⟨rfl, rfl, rfl, by decide +kernel, rfl, by decide +kernel, by decide +kernel⟩
theorem ok_law (B : Bi K mg) {f : Addr} {fd : FuncData} (F : L2.Fun K "law" "law" s_law f fd) {c : Addr} (MK : Mk mg "law" base c) (a__law_feed : ∀ b, BE base b → Df P w K mg b "_law_feed" ["script"] 1 g__law_feed) (a__law_path : ∀ b, BE base b → Df P w K mg b "_law_path" ["feed"] 3 g__law_path) (a_shifted : ∀ b, BE base b → Df P w K mg b "shifted" ["path", "x", "y"] 3 g_shifted) (a_mirrored : ∀ b, BE base b → Df P w K mg b "mirrored" ["path"] 3 g_mirrored) (a_reversed_path : ∀ b, BE base b → Df P w K mg b "reversed_path" ["path"] 1 g_reversed_path) (a_joined_paths : ∀ b, BE base b → Df P w K mg b "joined_paths" ["one", "other"] 1 g_joined_paths) (a__law_each : ∀ b, BE base b → DfH P w K mg b "_law_each" ["path", "turn"] 1 2 g__law_each) (a__law_sides : ∀ b, BE base b → Df P w K mg b "_law_sides" ["path"] 1 g__law_sides) (a__law_draw : ∀ b, BE base b → Df P w K mg b "_law_draw" ["feed", "many"] 1 g__law_draw) (a__law_asked : ∀ b, BE base b → Df P w K mg b "_law_asked" ["way", "path", "one", "other"] 5 g__law_asked) (a__law_with : ∀ b, BE base b → Df P w K mg b "_law_with" ["path", "number"] 2 g__law_with) (a__law_back : ∀ b, BE base b → Df P w K mg b "_law_back" ["ring"] 1 g__law_back) (a__law_begun : ∀ b, BE base b → Df P w K mg b "_law_begun" ["path", "one", "other"] 1 g__law_begun) (hcc : fd.code = .ref c) : FnD P w K mg base 6 f fd ["script"] g_law :=
  FnD.ofC F sc_law l_law hcc (fun A outer s H E hr hG =>
  have nd := sc_law.nd
  have d__law_feed := a__law_feed base .refl; have d__law_path := a__law_path base .refl; have d_shifted := a_shifted base .refl; have d_mirrored := a_mirrored base .refl; have d_reversed_path := a_reversed_path base .refl; have d_joined_paths := a_joined_paths base .refl; have d__law_sides := a__law_sides base .refl; have d__law_draw := a__law_draw base .refl; have d__law_asked := a__law_asked base .refl; have d__law_with := a__law_with base .refl; have d__law_back := a__law_back base .refl; have d__law_begun := a__law_begun base .refl; (dss_cons (ds_set 1 nd (de_call d__law_feed (hr.mono (by decide)) hG (takes_of rfl rfl rfl rfl) (da_cons (de_var 0) da_nil)))
  (dss_cons (ds_par 8 9 rfl nd (da_cons (de_call d__law_path (hr.mono (by decide)) hG (takes_of rfl rfl rfl rfl) (da_cons (de_var 1) da_nil)) (da_cons (de_slice (de_call d__law_path (hr.mono (by decide)) hG (takes_of rfl rfl rfl rfl) (da_cons (de_var 1) da_nil)) do_none (do_some de_int)) da_nil)))
  (dss_cons (ds_set 2 nd (de_callB (c_repr hG hr.units) B.b_repr bt_repr (da_cons (de_tup (da_cons (de_var 8) (da_cons (de_var 9) da_nil))) da_nil)))
  (dss_cons (ds_asg (de_lc (own := [("k", 14)]) rfl nd (di_rng1 B.b_range (da_cons de_int da_nil)) (blkOk_by (by show blkC n_law (defScope s_law) _ _ = true; decide +kernel)) (by decide) (fun _ _ _ _ _ => (dg_nm 14 nd)) (fun _ _ _ _ _ => dts_nil) (fun _ _ _ _ _ => (de_ix (de_lst (da_cons de_int (da_cons de_int (da_cons (de_un o_neg de_int) (da_cons (de_op o_sub (de_call d__law_draw (hr.mono (by decide)) hG takes0 (da_cons (de_var 1) (da_cons de_int da_nil))) de_int) da_nil))))) (de_call d__law_draw (hr.mono (by decide)) hG takes0 (da_cons (de_var 1) (da_cons de_int da_nil)))))) (dg_tup rfl (dgs_cons (dg_nm 10 nd) (dgs_cons (dg_nm 11 nd) dgs_nil)) (pl_of 2)))
  (dss_cons (ds_set 3 nd (de_lst (da_cons (de_call d_shifted (hr.mono (by decide)) hG (takes_of rfl rfl rfl rfl) (da_cons (de_var 8) (da_cons (de_var 10) (da_cons (de_var 11) da_nil)))) (da_cons (de_call d_mirrored (hr.mono (by decide)) hG (takes_of rfl rfl rfl rfl) (da_cons (de_var 8) da_nil)) (da_cons (de_call d_reversed_path (hr.mono (by decide)) hG (takes_of rfl rfl rfl rfl) (da_cons (de_var 8) da_nil)) (da_cons (de_call d_joined_paths (hr.mono (by decide)) hG (takes_of rfl rfl rfl rfl) (da_cons (de_slice (de_var 8) do_none (do_some de_int)) (da_cons (de_var 9) da_nil))) da_nil))))))
  (dss_cons (ds_set 4 nd (de_lstN (da_cons (de_callH a__law_each (hr.mono (by decide)) hG (takes_of rfl rfl rfl rfl) (fun b hb F lm => by obtain ⟨_, e, _⟩ := lm; cases F; cases e; exact LOk.mono (LOk.of (k := 0) (N := n_law_lam1) (ps := ["point"]) (fr := ["x", "y"]) (te := te_law_lam1) (nscope_by (by dsimp only; decide +kernel)) (fun _ _ us hl => match us, hl with | [_], _ => rfl) l_law_lam1 (fun f A outer s H E hr hG => (de_tup (da_cons (de_op o_add (de_ix (de_var 0) de_int) (de_var 1)) (da_cons (de_op o_add (de_ix (de_var 0) de_int) (de_var 2)) da_nil)))) h_law_lam1) (by decide)) (hfr_of (fr := ["x", "y"]) (by show ndefB (defScope s_law) _ ["x", "y"] = true; decide +kernel) (fun _ => rfl)) rfl rfl rfl (dal_cons (de_var 8) (dal_lam (lamAt_of (fr := ["x", "y"]) MK rfl rfl rfl (by show ndefB (defScope s_law) _ ["x", "y"] = true; decide +kernel))))) da_nil)))
  (dss_cons (ds_expr (de_mtL PySem.F.slot_list_append PySem.F.type_list_append m_append (de_var 4) (da_cons (de_callH a__law_each (hr.mono (by decide)) hG (takes_of rfl rfl rfl rfl) (fun b hb F lm => by obtain ⟨_, e, _⟩ := lm; cases F; cases e; exact LOk.mono (LOk.of (k := 0) (N := n_law_lam2) (ps := ["point"]) (fr := []) (te := te_law_lam2) (nscope_by (by dsimp only; decide +kernel)) (fun _ _ us hl => match us, hl with | [_], _ => rfl) l_law_lam2 (fun f A outer s H E hr hG => (de_tup (da_cons (de_op o_sub de_int (de_ix (de_var 0) de_int)) (da_cons (de_ix (de_var 0) de_int) da_nil)))) h_law_lam2) (by decide)) (hfr_of (fr := []) (by show ndefB (defScope s_law) _ [] = true; decide +kernel) (fun _ => rfl)) rfl rfl rfl (dal_cons (de_var 8) (dal_lam (lamAt_of (fr := []) MK rfl rfl rfl (by show ndefB (defScope s_law) _ [] = true; decide +kernel))))) da_nil)))
  (dss_cons (ds_set 4 nd (de_op o_addN (de_var 4) (de_lst (da_cons (de_callT c_tup B.b_tuple bt_tuple (da_cons (de_lc (own := [("ring", 15)]) rfl nd (di_items (de_var 8)) (blkOk_by (by show blkC n_law (defScope s_law) _ _ = true; decide +kernel)) (by decide) (fun _ _ _ _ _ => (dg_nm 15 nd)) (fun _ _ _ _ _ => dts_nil) (fun _ _ _ _ _ => (de_call d__law_back (hr.mono (by decide)) hG takes0 (da_cons (de_var 15) da_nil)))) da_nil)) (da_cons (de_callT c_tup B.b_tuple bt_tuple (da_cons (de_op o_add (de_callT c_lst B.b_list bt_list (da_cons (de_slice (de_var 8) do_none (do_some de_int)) da_nil)) (de_callT c_lst B.b_list bt_list (da_cons (de_var 9) da_nil))) da_nil)) da_nil)))))
  (dss_cons (ds_if (dt_cmp (o_ne hr.units) (de_callB (c_repr hG hr.units) B.b_repr bt_repr (da_cons (de_var 3) da_nil)) (de_callB (c_repr hG hr.units) B.b_repr bt_repr (da_cons (de_var 4) da_nil))) (dss_one (ds_ret de_bl)) dss_nil)
  (dss_cons (ds_for (passes_of rfl) rfl (di_items (de_op o_add (de_lrng1 rfl B.b_list B.b_range (de_op o_add (de_callB c_len B.b_len bt_len (da_cons (de_var 8) da_nil)) de_int)) (de_lst (da_cons (de_un o_neg de_int) (da_cons (de_op o_pow de_int de_int) da_nil))))) (dg_nm 5 nd) (dss_cons (ds_set 12 nd (de_ifExp (dt_chain o_le o_lt de_int (de_var 5) (de_callB c_len B.b_len bt_len (da_cons (de_var 8) da_nil))) (de_callB c_len B.b_len bt_len (da_cons (de_ix (de_var 8) (de_var 5)) da_nil)) de_int))
  (dss_one (ds_for (passes_of rfl) rfl (di_items (de_op o_add (de_lrng1 rfl B.b_list B.b_range (de_op o_add (de_var 12) de_int)) (de_lst (da_cons (de_un o_neg de_int) (da_cons (de_op o_sub de_int (de_op o_pow de_int de_int)) da_nil))))) (dg_nm 13 nd) (dss_one (ds_if (dt_cmp (o_ne hr.units) (de_callB (c_repr hG hr.units) B.b_repr bt_repr (da_cons (de_call d__law_asked (hr.mono (by decide)) hG (takes_of rfl rfl rfl rfl) (da_cons de_int (da_cons (de_var 8) (da_cons (de_var 5) (da_cons (de_var 13) da_nil))))) da_nil)) (de_callB (c_repr hG hr.units) B.b_repr bt_repr (da_cons (de_call d__law_begun (hr.mono (by decide)) hG (takes_of rfl rfl rfl rfl) (da_cons (de_var 8) (da_cons (de_var 5) (da_cons (de_var 13) da_nil)))) da_nil))) (dss_one (ds_ret de_bl)) dss_nil))))))
  (dss_cons (ds_set 6 nd (de_callB c_len B.b_len bt_len (da_cons (de_call d__law_sides (hr.mono (by decide)) hG (takes_of rfl rfl rfl rfl) (da_cons (de_var 8) da_nil)) da_nil)))
  (dss_cons (ds_for (passes_of rfl) rfl (di_items (de_op o_add (de_lrng1 rfl B.b_list B.b_range (de_op o_add (de_var 6) de_int)) (de_lst (da_cons (de_un o_neg de_int) (da_cons (de_op o_pow de_int de_int) (da_cons (de_op o_sub de_int (de_var 6)) da_nil)))))) (dg_nm 7 nd) (dss_one (ds_if (dt_cmp (o_ne hr.units) (de_callB (c_repr hG hr.units) B.b_repr bt_repr (da_cons (de_call d__law_asked (hr.mono (by decide)) hG (takes_of rfl rfl rfl rfl) (da_cons de_int (da_cons (de_var 8) (da_cons (de_var 7) (da_cons de_non da_nil))))) da_nil)) (de_callB (c_repr hG hr.units) B.b_repr bt_repr (da_cons (de_call d__law_with (hr.mono (by decide)) hG (takes_of rfl rfl rfl rfl) (da_cons (de_var 8) (da_cons (de_var 7) da_nil))) da_nil))) (dss_one (ds_ret de_bl)) dss_nil)))
  (dss_one (ds_ret (de_cmp (o_eq hr.units) (de_callB (c_repr hG hr.units) B.b_repr bt_repr (da_cons (de_tup (da_cons (de_var 8) (da_cons (de_var 9) da_nil))) da_nil)) (de_var 2))))))))))))))))) h_law
end
omit [Tbs] in
theorem all_mk {l : PySem.W.OpenLaw} {w : World} {K : PySem.W.Frag} {h : Heap} {mg : Str → Option Value} {fa : Addr} (X : K.In h) (G : h.Ns mainGlobals mg) (hfa : mg "law" = some (.ref fa))
    {cc4 cP4 : Addr} {ccl4 : Value} {cod4 : Option Addr} {cvs4 : Array Value} {csl4 : Array (Option Value)}
    {cc5 cP5 : Addr} {ccl5 : Value} {cod5 : Option Addr} {cvs5 : Array Value} {csl5 : Array (Option Value)}
    {cc22 cP22 : Addr} {ccl22 : Value} {cod22 : Option Addr} {cvs22 : Array Value} {csl22 : Array (Option Value)}
    {f0 f1 f2 f3 f4 f5 f6 f7 f8 f9 f10 f11 f12 f13 f14 f15 f16 f17 f18 f19 f20 f21 f22 : Addr}
    {od0 an0 od1 an1 od2 an2 od3 an3 od4 an4 od5 an5 od6 an6 od7 an7 od8 an8 od9 an9 od10 an10 od11 an11 od12 an12 od13 an13 od14 an14 od15 an15 od16 an16 od17 an17 od18 an18 od19 an19 od20 an20 od21 an21 od22 an22 : Option Addr} {sl0 sl1 sl2 sl3 sl4 sl5 sl6 sl7 sl8 sl9 sl10 sl11 sl12 sl13 sl14 sl15 sl16 sl17 sl18 sl19 sl20 sl21 sl22 : Array (Option Value)}
    {oc0 kV0 dc0 pm0 ct0 cd0 oc1 kV1 dc1 pm1 ct1 cd1 oc2 kV2 dc2 pm2 ct2 cd2 oc3 kV3 dc3 pm3 ct3 cd3 oc4 kV4 dc4 pm4 ct4 oc5 kV5 dc5 pm5 ct5 oc6 kV6 dc6 pm6 ct6 cd6 oc7 kV7 dc7 pm7 ct7 cd7 oc8 kV8 dc8 pm8 ct8 cd8 oc9 kV9 dc9 pm9 ct9 cd9 oc10 kV10 dc10 pm10 ct10 cd10 oc11 kV11 dc11 pm11 ct11 cd11 oc12 kV12 dc12 pm12 ct12 cd12 oc13 kV13 dc13 pm13 ct13 cd13 oc14 kV14 dc14 pm14 ct14 cd14 oc15 kV15 dc15 pm15 ct15 cd15 oc16 kV16 dc16 pm16 ct16 cd16 oc17 kV17 dc17 pm17 ct17 cd17 oc18 kV18 dc18 pm18 ct18 cd18 oc19 kV19 dc19 pm19 ct19 cd19 oc20 kV20 dc20 pm20 ct20 cd20 oc21 kV21 dc21 pm21 ct21 cd21 oc22 kV22 dc22 pm22 ct22 : Value}
    (a0 : PySem.W.nsIn K mainGlobals "ring_sides" = some (some (.ref f0))) (l0 : K.lookup f0 = some ⟨oc0, od0, .func (PySem.W.fnOf "ring_sides" "ring_sides" (defArgs s_ring_sides) (defBody s_ring_sides) (defScope s_ring_sides) .none kV0 dc0 pm0 an0 cd0 ct0), sl0⟩) (c0 : PySem.W.codeIn K cd0 "ring_sides" = true) (k0 : PySem.W.keepIn K (.ref f0) = true)
    (a1 : PySem.W.nsIn K mainGlobals "sides_of" = some (some (.ref f1))) (l1 : K.lookup f1 = some ⟨oc1, od1, .func (PySem.W.fnOf "sides_of" "sides_of" (defArgs s_sides_of) (defBody s_sides_of) (defScope s_sides_of) .none kV1 dc1 pm1 an1 cd1 ct1), sl1⟩) (c1 : PySem.W.codeIn K cd1 "sides_of" = true) (k1 : PySem.W.keepIn K (.ref f1) = true)
    (a2 : PySem.W.nsIn K mainGlobals "side_of" = some (some (.ref f2))) (l2 : K.lookup f2 = some ⟨oc2, od2, .func (PySem.W.fnOf "side_of" "side_of" (defArgs s_side_of) (defBody s_side_of) (defScope s_side_of) .none kV2 dc2 pm2 an2 cd2 ct2), sl2⟩) (c2 : PySem.W.codeIn K cd2 "side_of" = true) (k2 : PySem.W.keepIn K (.ref f2) = true)
    (a3 : PySem.W.nsIn K mainGlobals "each_point" = some (some (.ref f3))) (l3 : K.lookup f3 = some ⟨oc3, od3, .func (PySem.W.fnOf "each_point" "each_point" (defArgs s_each_point) (defBody s_each_point) (defScope s_each_point) .none kV3 dc3 pm3 an3 cd3 ct3), sl3⟩) (c3 : PySem.W.codeIn K cd3 "each_point" = true) (k3 : PySem.W.keepIn K (.ref f3) = true)
    (a4 : PySem.W.nsIn K mainGlobals "shifted" = some (some (.ref f4))) (l4 : K.lookup f4 = some ⟨oc4, od4, .func (PySem.W.fnOf "shifted" "shifted" (defArgs s_shifted) (defBody s_shifted) (defScope s_shifted) .none kV4 dc4 pm4 an4 (.ref cc4) ct4), sl4⟩) (c4 : PySem.W.codeIn K (.ref cc4) "shifted" = true) (k4 : PySem.W.keepIn K (.ref f4) = true)
    (lk4 : K.lookup cc4 = some ⟨ccl4, cod4, .fields cvs4, csl4⟩) (lp4 : (cvs4[11]? : Option Value) = some (.ref cP4)) (lh4 : PySem.W.codeHdIn K cc4 cP4 = true) (lt4 : h.get? cP4 = some { cls := .none, data := .fields #[] }) (ln4 : K.lookup cP4 = none)
    (a5 : PySem.W.nsIn K mainGlobals "mirrored" = some (some (.ref f5))) (l5 : K.lookup f5 = some ⟨oc5, od5, .func (PySem.W.fnOf "mirrored" "mirrored" (defArgs s_mirrored) (defBody s_mirrored) (defScope s_mirrored) .none kV5 dc5 pm5 an5 (.ref cc5) ct5), sl5⟩) (c5 : PySem.W.codeIn K (.ref cc5) "mirrored" = true) (k5 : PySem.W.keepIn K (.ref f5) = true)
    (lk5 : K.lookup cc5 = some ⟨ccl5, cod5, .fields cvs5, csl5⟩) (lp5 : (cvs5[11]? : Option Value) = some (.ref cP5)) (lh5 : PySem.W.codeHdIn K cc5 cP5 = true) (lt5 : h.get? cP5 = some { cls := .none, data := .fields #[] }) (ln5 : K.lookup cP5 = none)
    (a6 : PySem.W.nsIn K mainGlobals "reversed_path" = some (some (.ref f6))) (l6 : K.lookup f6 = some ⟨oc6, od6, .func (PySem.W.fnOf "reversed_path" "reversed_path" (defArgs s_reversed_path) (defBody s_reversed_path) (defScope s_reversed_path) .none kV6 dc6 pm6 an6 cd6 ct6), sl6⟩) (c6 : PySem.W.codeIn K cd6 "reversed_path" = true) (k6 : PySem.W.keepIn K (.ref f6) = true)
    (a7 : PySem.W.nsIn K mainGlobals "put" = some (some (.ref f7))) (l7 : K.lookup f7 = some ⟨oc7, od7, .func (PySem.W.fnOf "put" "put" (defArgs s_put) (defBody s_put) (defScope s_put) .none kV7 dc7 pm7 an7 cd7 ct7), sl7⟩) (c7 : PySem.W.codeIn K cd7 "put" = true) (k7 : PySem.W.keepIn K (.ref f7) = true)
    (a8 : PySem.W.nsIn K mainGlobals "begun_at" = some (some (.ref f8))) (l8 : K.lookup f8 = some ⟨oc8, od8, .func (PySem.W.fnOf "begun_at" "begun_at" (defArgs s_begun_at) (defBody s_begun_at) (defScope s_begun_at) .none kV8 dc8 pm8 an8 cd8 ct8), sl8⟩) (c8 : PySem.W.codeIn K cd8 "begun_at" = true) (k8 : PySem.W.keepIn K (.ref f8) = true)
    (a9 : PySem.W.nsIn K mainGlobals "with_point" = some (some (.ref f9))) (l9 : K.lookup f9 = some ⟨oc9, od9, .func (PySem.W.fnOf "with_point" "with_point" (defArgs s_with_point) (defBody s_with_point) (defScope s_with_point) .none kV9 dc9 pm9 an9 cd9 ct9), sl9⟩) (c9 : PySem.W.codeIn K cd9 "with_point" = true) (k9 : PySem.W.keepIn K (.ref f9) = true)
    (a10 : PySem.W.nsIn K mainGlobals "joined_paths" = some (some (.ref f10))) (l10 : K.lookup f10 = some ⟨oc10, od10, .func (PySem.W.fnOf "joined_paths" "joined_paths" (defArgs s_joined_paths) (defBody s_joined_paths) (defScope s_joined_paths) .none kV10 dc10 pm10 an10 cd10 ct10), sl10⟩) (c10 : PySem.W.codeIn K cd10 "joined_paths" = true) (k10 : PySem.W.keepIn K (.ref f10) = true)
    (a11 : PySem.W.nsIn K mainGlobals "_law_feed" = some (some (.ref f11))) (l11 : K.lookup f11 = some ⟨oc11, od11, .func (PySem.W.fnOf "_law_feed" "_law_feed" (defArgs s__law_feed) (defBody s__law_feed) (defScope s__law_feed) .none kV11 dc11 pm11 an11 cd11 ct11), sl11⟩) (c11 : PySem.W.codeIn K cd11 "_law_feed" = true) (k11 : PySem.W.keepIn K (.ref f11) = true)
    (a12 : PySem.W.nsIn K mainGlobals "_law_draw" = some (some (.ref f12))) (l12 : K.lookup f12 = some ⟨oc12, od12, .func (PySem.W.fnOf "_law_draw" "_law_draw" (defArgs s__law_draw) (defBody s__law_draw) (defScope s__law_draw) .none kV12 dc12 pm12 an12 cd12 ct12), sl12⟩) (c12 : PySem.W.codeIn K cd12 "_law_draw" = true) (k12 : PySem.W.keepIn K (.ref f12) = true)
    (a13 : PySem.W.nsIn K mainGlobals "_law_point" = some (some (.ref f13))) (l13 : K.lookup f13 = some ⟨oc13, od13, .func (PySem.W.fnOf "_law_point" "_law_point" (defArgs s__law_point) (defBody s__law_point) (defScope s__law_point) .none kV13 dc13 pm13 an13 cd13 ct13), sl13⟩) (c13 : PySem.W.codeIn K cd13 "_law_point" = true) (k13 : PySem.W.keepIn K (.ref f13) = true)
    (a14 : PySem.W.nsIn K mainGlobals "_law_path" = some (some (.ref f14))) (l14 : K.lookup f14 = some ⟨oc14, od14, .func (PySem.W.fnOf "_law_path" "_law_path" (defArgs s__law_path) (defBody s__law_path) (defScope s__law_path) .none kV14 dc14 pm14 an14 cd14 ct14), sl14⟩) (c14 : PySem.W.codeIn K cd14 "_law_path" = true) (k14 : PySem.W.keepIn K (.ref f14) = true)
    (a15 : PySem.W.nsIn K mainGlobals "_law_sides" = some (some (.ref f15))) (l15 : K.lookup f15 = some ⟨oc15, od15, .func (PySem.W.fnOf "_law_sides" "_law_sides" (defArgs s__law_sides) (defBody s__law_sides) (defScope s__law_sides) .none kV15 dc15 pm15 an15 cd15 ct15), sl15⟩) (c15 : PySem.W.codeIn K cd15 "_law_sides" = true) (k15 : PySem.W.keepIn K (.ref f15) = true)
    (a16 : PySem.W.nsIn K mainGlobals "_law_each" = some (some (.ref f16))) (l16 : K.lookup f16 = some ⟨oc16, od16, .func (PySem.W.fnOf "_law_each" "_law_each" (defArgs s__law_each) (defBody s__law_each) (defScope s__law_each) .none kV16 dc16 pm16 an16 cd16 ct16), sl16⟩) (c16 : PySem.W.codeIn K cd16 "_law_each" = true) (k16 : PySem.W.keepIn K (.ref f16) = true)
    (a17 : PySem.W.nsIn K mainGlobals "_law_back" = some (some (.ref f17))) (l17 : K.lookup f17 = some ⟨oc17, od17, .func (PySem.W.fnOf "_law_back" "_law_back" (defArgs s__law_back) (defBody s__law_back) (defScope s__law_back) .none kV17 dc17 pm17 an17 cd17 ct17), sl17⟩) (c17 : PySem.W.codeIn K cd17 "_law_back" = true) (k17 : PySem.W.keepIn K (.ref f17) = true)
    (a18 : PySem.W.nsIn K mainGlobals "_law_refusal" = some (some (.ref f18))) (l18 : K.lookup f18 = some ⟨oc18, od18, .func (PySem.W.fnOf "_law_refusal" "_law_refusal" (defArgs s__law_refusal) (defBody s__law_refusal) (defScope s__law_refusal) .none kV18 dc18 pm18 an18 cd18 ct18), sl18⟩) (c18 : PySem.W.codeIn K cd18 "_law_refusal" = true) (k18 : PySem.W.keepIn K (.ref f18) = true)
    (a19 : PySem.W.nsIn K mainGlobals "_law_asked" = some (some (.ref f19))) (l19 : K.lookup f19 = some ⟨oc19, od19, .func (PySem.W.fnOf "_law_asked" "_law_asked" (defArgs s__law_asked) (defBody s__law_asked) (defScope s__law_asked) .none kV19 dc19 pm19 an19 cd19 ct19), sl19⟩) (c19 : PySem.W.codeIn K cd19 "_law_asked" = true) (k19 : PySem.W.keepIn K (.ref f19) = true)
    (a20 : PySem.W.nsIn K mainGlobals "_law_begun" = some (some (.ref f20))) (l20 : K.lookup f20 = some ⟨oc20, od20, .func (PySem.W.fnOf "_law_begun" "_law_begun" (defArgs s__law_begun) (defBody s__law_begun) (defScope s__law_begun) .none kV20 dc20 pm20 an20 cd20 ct20), sl20⟩) (c20 : PySem.W.codeIn K cd20 "_law_begun" = true) (k20 : PySem.W.keepIn K (.ref f20) = true)
    (a21 : PySem.W.nsIn K mainGlobals "_law_with" = some (some (.ref f21))) (l21 : K.lookup f21 = some ⟨oc21, od21, .func (PySem.W.fnOf "_law_with" "_law_with" (defArgs s__law_with) (defBody s__law_with) (defScope s__law_with) .none kV21 dc21 pm21 an21 cd21 ct21), sl21⟩) (c21 : PySem.W.codeIn K cd21 "_law_with" = true) (k21 : PySem.W.keepIn K (.ref f21) = true)
    (a22 : PySem.W.nsIn K mainGlobals "law" = some (some (.ref f22))) (l22 : K.lookup f22 = some ⟨oc22, od22, .func (PySem.W.fnOf "law" "law" (defArgs s_law) (defBody s_law) (defScope s_law) .none kV22 dc22 pm22 an22 (.ref cc22) ct22), sl22⟩) (c22 : PySem.W.codeIn K (.ref cc22) "law" = true) (k22 : PySem.W.keepIn K (.ref f22) = true)
    (lk22 : K.lookup cc22 = some ⟨ccl22, cod22, .fields cvs22, csl22⟩) (lp22 : (cvs22[11]? : Option Value) = some (.ref cP22)) (lh22 : PySem.W.codeHdIn K cc22 cP22 = true) (lt22 : h.get? cP22 = some { cls := .none, data := .fields #[] }) (ln22 : K.lookup cP22 = none)
    (lu4_5 : cP4 ≠ cP5)
    (lu4_22 : cP4 ≠ cP22)
    (lu5_22 : cP5 ≠ cP22)
    (z_isinstance : PySem.W.nsIn K mainGlobals "isinstance" = some none)
    (z_len : PySem.W.nsIn K mainGlobals "len" = some none)
    (z_list : PySem.W.nsIn K mainGlobals "list" = some none)
    (z_range : PySem.W.nsIn K mainGlobals "range" = some none)
    (z_repr : PySem.W.nsIn K mainGlobals "repr" = some none)
    (z_tuple : PySem.W.nsIn K mainGlobals "tuple" = some none)
    (z_zip : PySem.W.nsIn K mainGlobals "zip" = some none)
    {A_NoStep : Addr} (mc_NoStep : PySem.W.nsIn K mainGlobals "NoStep" = some (some (.ref A_NoStep)))
    {A_LostError : Addr} (mc_LostError : PySem.W.nsIn K mainGlobals "LostError" = some (some (.ref A_LostError)))
    {A_NoSide : Addr} (mc_NoSide : PySem.W.nsIn K mainGlobals "NoSide" = some (some (.ref A_NoSide)))
    {A_NoExact : Addr} (mc_NoExact : PySem.W.nsIn K mainGlobals "NoExact" = some (some (.ref A_NoExact)))
    {A_InkError : Addr} (mc_InkError : PySem.W.nsIn K mainGlobals "InkError" = some (some (.ref A_InkError)))
    (mc_LookupError : PySem.W.nsIn K mainGlobals "LookupError" = some none)
    {A_NoCell : Addr} (mc_NoCell : PySem.W.nsIn K mainGlobals "NoCell" = some (some (.ref A_NoCell)))
    {A_NoLayer : Addr} (mc_NoLayer : PySem.W.nsIn K mainGlobals "NoLayer" = some (some (.ref A_NoLayer)))
    {A_NoName : Addr} (mc_NoName : PySem.W.nsIn K mainGlobals "NoName" = some (some (.ref A_NoName)))
    {A_NoPaper : Addr} (mc_NoPaper : PySem.W.nsIn K mainGlobals "NoPaper" = some (some (.ref A_NoPaper)))
    {A_NoRatio : Addr} (mc_NoRatio : PySem.W.nsIn K mainGlobals "NoRatio" = some (some (.ref A_NoRatio)))
    {A_NoRow : Addr} (mc_NoRow : PySem.W.nsIn K mainGlobals "NoRow" = some (some (.ref A_NoRow)))
    {A_NoText : Addr} (mc_NoText : PySem.W.nsIn K mainGlobals "NoText" = some (some (.ref A_NoText)))
    (mc_ValueError : PySem.W.nsIn K mainGlobals "ValueError" = some none)
    {A_ZeroError : Addr} (mc_ZeroError : PySem.W.nsIn K mainGlobals "ZeroError" = some (some (.ref A_ZeroError)))
    (g_cn : PySem.W.specialIn K (.builtin "object.__class__") "__get__" = some (some (.builtin "getset_descriptor.__get__"))) (g_ct : PySem.W.takesIn K (.builtin "object.__class__") = some true)
    (ba_LostError : PySem.W.specialIn K (.ref A_LostError) "__getattribute__" = some (some (.builtin "type.__getattribute__"))) (br_LostError : PySem.W.readsIn K A_LostError (.type "type") = true) (bf_LostError : PySem.W.findCls K (.ref A_LostError) (.type "type") "__init__" = some (.val (.builtin "LookupError.__init__")))
    (ba_InkError : PySem.W.specialIn K (.ref A_InkError) "__getattribute__" = some (some (.builtin "type.__getattribute__"))) (br_InkError : PySem.W.readsIn K A_InkError (.type "type") = true) (bf_InkError : PySem.W.findCls K (.ref A_InkError) (.type "type") "__init__" = some (.val (.builtin "ValueError.__init__")))
    {nm_NoStep qn_NoStep : Str} {N_NoStep fI_NoStep : Addr} {bs_NoStep sb_NoStep : List Value} {sn_NoStep : List Str} {ab_NoStep : Bool} {cl_NoStep : Option Bool} {dd_NoStep : Option Addr} {k0_NoStep k1_NoStep k2_NoStep k3_NoStep k5_NoStep : Option Value} {io_NoStep ik_NoStep idc_NoStep ipm_NoStep icd_NoStep ict_NoStep : Value} {iod_NoStep ian_NoStep : Option Addr} {isl_NoStep : Array (Option Value)}
    (xl_NoStep : K.lookup A_NoStep = some (excClassObj nm_NoStep qn_NoStep A_NoStep N_NoStep bs_NoStep (.ref A_LostError :: PySem.OXG.tL) true sn_NoStep sb_NoStep ab_NoStep cl_NoStep dd_NoStep k0_NoStep k1_NoStep k2_NoStep k3_NoStep k5_NoStep "LookupError.__new__"))
    (sa_NoStep : PySem.W.findIn K (.ref A_NoStep) "__setattr__" = some (some (.builtin "object.__setattr__")))
    (eb_NoStep : PySem.W.subIn K (.ref A_NoStep) (.type "BaseException") = some true)
    (ty_NoStep : PySem.W.typeIn K (.ref A_NoStep) = some (.type "type"))
    (kc_NoStep : PySem.W.keepIn K (.ref A_NoStep) = true)
    (gg_NoStep : PySem.W.findIn K (.ref A_NoStep) "__getattribute__" = some (some (.builtin "BaseException.__getattribute__")))
    (gk_NoStep : PySem.W.findIn K (.ref A_NoStep) "__getattr__" = some none)
    (hd_NoStep : PySem.W.hasDictIn K A_NoStep = true)
    (ha_NoStep : PySem.W.findIn K (.ref A_NoStep) "__class__" = some (some (.builtin "object.__class__")))
    (mo_NoStep : PySem.W.mroIn K A_NoStep (.type "object") = some true)
    (ii_NoStep : PySem.W.findIn K (.ref A_NoStep) "__init__" = some (some (.ref fI_NoStep))) (it_NoStep : PySem.W.typeIn K (.ref fI_NoStep) = some (.type "function"))
    (il_NoStep : K.lookup fI_NoStep = some ⟨io_NoStep, iod_NoStep, .func (PySem.W.fnOf "__init__" "NoStep.__init__" (defArgs s_init_NoStep) (defBody s_init_NoStep) (defScope s_init_NoStep) .none ik_NoStep idc_NoStep ipm_NoStep ian_NoStep icd_NoStep ict_NoStep), isl_NoStep⟩) (ic_NoStep : PySem.W.codeIn K icd_NoStep "NoStep.__init__" = true) (ikp_NoStep : PySem.W.keepIn K (.ref fI_NoStep) = true)
    (no_NoStep_number : PySem.W.findIn K (.ref A_NoStep) "number" = some none)
    (no_NoStep_side : PySem.W.findIn K (.ref A_NoStep) "side" = some none)
    (kt_NoStep_InkError : PySem.W.kitOne K (.ref A_NoStep) (.ref A_InkError) = some false)
    (kt_NoStep_LookupError : PySem.W.kitOne K (.ref A_NoStep) (.type "LookupError") = some true)
    (kt_NoStep_LostError : PySem.W.kitOne K (.ref A_NoStep) (.ref A_LostError) = some true)
    (kt_NoStep_NoCell : PySem.W.kitOne K (.ref A_NoStep) (.ref A_NoCell) = some false)
    (kt_NoStep_NoExact : PySem.W.kitOne K (.ref A_NoStep) (.ref A_NoExact) = some false)
    (kt_NoStep_NoLayer : PySem.W.kitOne K (.ref A_NoStep) (.ref A_NoLayer) = some false)
    (kt_NoStep_NoName : PySem.W.kitOne K (.ref A_NoStep) (.ref A_NoName) = some false)
    (kt_NoStep_NoPaper : PySem.W.kitOne K (.ref A_NoStep) (.ref A_NoPaper) = some false)
    (kt_NoStep_NoRatio : PySem.W.kitOne K (.ref A_NoStep) (.ref A_NoRatio) = some false)
    (kt_NoStep_NoRow : PySem.W.kitOne K (.ref A_NoStep) (.ref A_NoRow) = some false)
    (kt_NoStep_NoSide : PySem.W.kitOne K (.ref A_NoStep) (.ref A_NoSide) = some false)
    (kt_NoStep_NoStep : PySem.W.kitOne K (.ref A_NoStep) (.ref A_NoStep) = some true)
    (kt_NoStep_NoText : PySem.W.kitOne K (.ref A_NoStep) (.ref A_NoText) = some false)
    (kt_NoStep_ValueError : PySem.W.kitOne K (.ref A_NoStep) (.type "ValueError") = some false)
    (kt_NoStep_ZeroError : PySem.W.kitOne K (.ref A_NoStep) (.ref A_ZeroError) = some false)
    (ex_NoStep_InkError : PySem.W.subIn K (.ref A_NoStep) (.ref A_InkError) = some false)
    (ex_NoStep_LostError : PySem.W.subIn K (.ref A_NoStep) (.ref A_LostError) = some true)
    {nm_NoSide qn_NoSide : Str} {N_NoSide fI_NoSide : Addr} {bs_NoSide sb_NoSide : List Value} {sn_NoSide : List Str} {ab_NoSide : Bool} {cl_NoSide : Option Bool} {dd_NoSide : Option Addr} {k0_NoSide k1_NoSide k2_NoSide k3_NoSide k5_NoSide : Option Value} {io_NoSide ik_NoSide idc_NoSide ipm_NoSide icd_NoSide ict_NoSide : Value} {iod_NoSide ian_NoSide : Option Addr} {isl_NoSide : Array (Option Value)}
    (xl_NoSide : K.lookup A_NoSide = some (excClassObj nm_NoSide qn_NoSide A_NoSide N_NoSide bs_NoSide (.ref A_LostError :: PySem.OXG.tL) true sn_NoSide sb_NoSide ab_NoSide cl_NoSide dd_NoSide k0_NoSide k1_NoSide k2_NoSide k3_NoSide k5_NoSide "LookupError.__new__"))
    (sa_NoSide : PySem.W.findIn K (.ref A_NoSide) "__setattr__" = some (some (.builtin "object.__setattr__")))
    (eb_NoSide : PySem.W.subIn K (.ref A_NoSide) (.type "BaseException") = some true)
    (ty_NoSide : PySem.W.typeIn K (.ref A_NoSide) = some (.type "type"))
    (kc_NoSide : PySem.W.keepIn K (.ref A_NoSide) = true)
    (gg_NoSide : PySem.W.findIn K (.ref A_NoSide) "__getattribute__" = some (some (.builtin "BaseException.__getattribute__")))
    (gk_NoSide : PySem.W.findIn K (.ref A_NoSide) "__getattr__" = some none)
    (hd_NoSide : PySem.W.hasDictIn K A_NoSide = true)
    (ha_NoSide : PySem.W.findIn K (.ref A_NoSide) "__class__" = some (some (.builtin "object.__class__")))
    (mo_NoSide : PySem.W.mroIn K A_NoSide (.type "object") = some true)
    (ii_NoSide : PySem.W.findIn K (.ref A_NoSide) "__init__" = some (some (.ref fI_NoSide))) (it_NoSide : PySem.W.typeIn K (.ref fI_NoSide) = some (.type "function"))
    (il_NoSide : K.lookup fI_NoSide = some ⟨io_NoSide, iod_NoSide, .func (PySem.W.fnOf "__init__" "NoSide.__init__" (defArgs s_init_NoSide) (defBody s_init_NoSide) (defScope s_init_NoSide) .none ik_NoSide idc_NoSide ipm_NoSide ian_NoSide icd_NoSide ict_NoSide), isl_NoSide⟩) (ic_NoSide : PySem.W.codeIn K icd_NoSide "NoSide.__init__" = true) (ikp_NoSide : PySem.W.keepIn K (.ref fI_NoSide) = true)
    (no_NoSide_number : PySem.W.findIn K (.ref A_NoSide) "number" = some none)
    (no_NoSide_side : PySem.W.findIn K (.ref A_NoSide) "side" = some none)
    (kt_NoSide_InkError : PySem.W.kitOne K (.ref A_NoSide) (.ref A_InkError) = some false)
    (kt_NoSide_LookupError : PySem.W.kitOne K (.ref A_NoSide) (.type "LookupError") = some true)
    (kt_NoSide_LostError : PySem.W.kitOne K (.ref A_NoSide) (.ref A_LostError) = some true)
    (kt_NoSide_NoCell : PySem.W.kitOne K (.ref A_NoSide) (.ref A_NoCell) = some false)
    (kt_NoSide_NoExact : PySem.W.kitOne K (.ref A_NoSide) (.ref A_NoExact) = some false)
    (kt_NoSide_NoLayer : PySem.W.kitOne K (.ref A_NoSide) (.ref A_NoLayer) = some false)
    (kt_NoSide_NoName : PySem.W.kitOne K (.ref A_NoSide) (.ref A_NoName) = some false)
    (kt_NoSide_NoPaper : PySem.W.kitOne K (.ref A_NoSide) (.ref A_NoPaper) = some false)
    (kt_NoSide_NoRatio : PySem.W.kitOne K (.ref A_NoSide) (.ref A_NoRatio) = some false)
    (kt_NoSide_NoRow : PySem.W.kitOne K (.ref A_NoSide) (.ref A_NoRow) = some false)
    (kt_NoSide_NoSide : PySem.W.kitOne K (.ref A_NoSide) (.ref A_NoSide) = some true)
    (kt_NoSide_NoStep : PySem.W.kitOne K (.ref A_NoSide) (.ref A_NoStep) = some false)
    (kt_NoSide_NoText : PySem.W.kitOne K (.ref A_NoSide) (.ref A_NoText) = some false)
    (kt_NoSide_ValueError : PySem.W.kitOne K (.ref A_NoSide) (.type "ValueError") = some false)
    (kt_NoSide_ZeroError : PySem.W.kitOne K (.ref A_NoSide) (.ref A_ZeroError) = some false)
    (ex_NoSide_InkError : PySem.W.subIn K (.ref A_NoSide) (.ref A_InkError) = some false)
    (ex_NoSide_LostError : PySem.W.subIn K (.ref A_NoSide) (.ref A_LostError) = some true)
    {nm_NoExact qn_NoExact : Str} {N_NoExact fI_NoExact : Addr} {bs_NoExact sb_NoExact : List Value} {sn_NoExact : List Str} {ab_NoExact : Bool} {cl_NoExact : Option Bool} {dd_NoExact : Option Addr} {k0_NoExact k1_NoExact k2_NoExact k3_NoExact k5_NoExact : Option Value} {io_NoExact ik_NoExact idc_NoExact ipm_NoExact icd_NoExact ict_NoExact : Value} {iod_NoExact ian_NoExact : Option Addr} {isl_NoExact : Array (Option Value)}
    (xl_NoExact : K.lookup A_NoExact = some (excClassObj nm_NoExact qn_NoExact A_NoExact N_NoExact bs_NoExact (.ref A_InkError :: PySem.OXG.tV) true sn_NoExact sb_NoExact ab_NoExact cl_NoExact dd_NoExact k0_NoExact k1_NoExact k2_NoExact k3_NoExact k5_NoExact "ValueError.__new__"))
    (sa_NoExact : PySem.W.findIn K (.ref A_NoExact) "__setattr__" = some (some (.builtin "object.__setattr__")))
    (eb_NoExact : PySem.W.subIn K (.ref A_NoExact) (.type "BaseException") = some true)
    (ty_NoExact : PySem.W.typeIn K (.ref A_NoExact) = some (.type "type"))
    (kc_NoExact : PySem.W.keepIn K (.ref A_NoExact) = true)
    (gg_NoExact : PySem.W.findIn K (.ref A_NoExact) "__getattribute__" = some (some (.builtin "BaseException.__getattribute__")))
    (gk_NoExact : PySem.W.findIn K (.ref A_NoExact) "__getattr__" = some none)
    (hd_NoExact : PySem.W.hasDictIn K A_NoExact = true)
    (ha_NoExact : PySem.W.findIn K (.ref A_NoExact) "__class__" = some (some (.builtin "object.__class__")))
    (mo_NoExact : PySem.W.mroIn K A_NoExact (.type "object") = some true)
    (ii_NoExact : PySem.W.findIn K (.ref A_NoExact) "__init__" = some (some (.ref fI_NoExact))) (it_NoExact : PySem.W.typeIn K (.ref fI_NoExact) = some (.type "function"))
    (il_NoExact : K.lookup fI_NoExact = some ⟨io_NoExact, iod_NoExact, .func (PySem.W.fnOf "__init__" "NoExact.__init__" (defArgs s_init_NoExact) (defBody s_init_NoExact) (defScope s_init_NoExact) .none ik_NoExact idc_NoExact ipm_NoExact ian_NoExact icd_NoExact ict_NoExact), isl_NoExact⟩) (ic_NoExact : PySem.W.codeIn K icd_NoExact "NoExact.__init__" = true) (ikp_NoExact : PySem.W.keepIn K (.ref fI_NoExact) = true)
    (no_NoExact_number : PySem.W.findIn K (.ref A_NoExact) "number" = some none)
    (no_NoExact_side : PySem.W.findIn K (.ref A_NoExact) "side" = some none)
    (kt_NoExact_InkError : PySem.W.kitOne K (.ref A_NoExact) (.ref A_InkError) = some true)
    (kt_NoExact_LookupError : PySem.W.kitOne K (.ref A_NoExact) (.type "LookupError") = some false)
    (kt_NoExact_LostError : PySem.W.kitOne K (.ref A_NoExact) (.ref A_LostError) = some false)
    (kt_NoExact_NoCell : PySem.W.kitOne K (.ref A_NoExact) (.ref A_NoCell) = some false)
    (kt_NoExact_NoExact : PySem.W.kitOne K (.ref A_NoExact) (.ref A_NoExact) = some true)
    (kt_NoExact_NoLayer : PySem.W.kitOne K (.ref A_NoExact) (.ref A_NoLayer) = some false)
    (kt_NoExact_NoName : PySem.W.kitOne K (.ref A_NoExact) (.ref A_NoName) = some false)
    (kt_NoExact_NoPaper : PySem.W.kitOne K (.ref A_NoExact) (.ref A_NoPaper) = some false)
    (kt_NoExact_NoRatio : PySem.W.kitOne K (.ref A_NoExact) (.ref A_NoRatio) = some false)
    (kt_NoExact_NoRow : PySem.W.kitOne K (.ref A_NoExact) (.ref A_NoRow) = some false)
    (kt_NoExact_NoSide : PySem.W.kitOne K (.ref A_NoExact) (.ref A_NoSide) = some false)
    (kt_NoExact_NoStep : PySem.W.kitOne K (.ref A_NoExact) (.ref A_NoStep) = some false)
    (kt_NoExact_NoText : PySem.W.kitOne K (.ref A_NoExact) (.ref A_NoText) = some false)
    (kt_NoExact_ValueError : PySem.W.kitOne K (.ref A_NoExact) (.type "ValueError") = some true)
    (kt_NoExact_ZeroError : PySem.W.kitOne K (.ref A_NoExact) (.ref A_ZeroError) = some false)
    (ex_NoExact_InkError : PySem.W.subIn K (.ref A_NoExact) (.ref A_InkError) = some true)
    (ex_NoExact_LostError : PySem.W.subIn K (.ref A_NoExact) (.ref A_LostError) = some false)
    (xb_InkError : PySem.W.subIn K (.ref A_InkError) (.type "BaseException") = some true) (xh_InkError : PySem.W.hasDictIn K A_InkError = true) (xt_InkError : PySem.W.typeIn K (.ref A_InkError) = some (.type "type"))
    (xb_LostError : PySem.W.subIn K (.ref A_LostError) (.type "BaseException") = some true) (xh_LostError : PySem.W.hasDictIn K A_LostError = true) (xt_LostError : PySem.W.typeIn K (.ref A_LostError) = some (.type "type"))
    : LawT l w K 6 "script" mg fa h g_law := by
  have e := hfa.symm.trans (PySem.W.mg_of X G a22)
  cases e
  refine ⟨[(cP4, fun _ _ => lamQ "shifted"), (cP5, fun _ _ => lamQ "mirrored"), (cP22, fun _ _ => lamQ "law")], PySem.W.fnOf "law" "law" (defArgs s_law) (defBody s_law) (defScope s_law) .none kV22 dc22 pm22 an22 (.ref cc22) ct22, [(cc4, cP4), (cc5, cP5), (cc22, cP22)], ?_, ?_, ?_, ?_, fun s v => .of_eq rfl, fun base0 _ _ tbs => ?_⟩
  · exact fun p hp => by
        simp only [List.mem_cons, List.not_mem_nil, or_false] at hp
        rcases hp with rfl | rfl | rfl
        · exact lt4
        · exact lt5
        · exact lt22
  · exact fun p hp => by
        simp only [List.mem_cons, List.not_mem_nil, or_false] at hp
        rcases hp with rfl | rfl | rfl
        · exact ln4
        · exact ln5
        · exact ln22
  · exact fun p hp => by
        simp only [List.mem_cons, List.not_mem_nil, or_false] at hp
        rcases hp with rfl | rfl | rfl
        · exact PySem.W.codeHd_of_K X lh4
        · exact PySem.W.codeHd_of_K X lh5
        · exact PySem.W.codeHd_of_K X lh22
  · exact fun p hp => by
        simp only [List.mem_cons, List.not_mem_nil, or_false] at hp
        rcases hp with rfl | rfl | rfl
        · exact ⟨(cc4, cP4), (.head _), rfl⟩
        · exact ⟨(cc5, cP5), (.tail _ (.head _)), rfl⟩
        · exact ⟨(cc22, cP22), (.tail _ (.tail _ (.head _))), rfl⟩
  letI : Tbs := ⟨[(cP4, fun _ _ => lamQ "shifted"), (cP5, fun _ _ => lamQ "mirrored"), (cP22, fun _ _ => lamQ "law")]⟩
  have M_shifted : Mk mg "shifted" base0 cc4 := ⟨cP4, tbs (cc4, cP4) (.head _), (show (cP4, fun _ _ => lamQ "shifted") ∈ ([(cP4, fun _ _ => lamQ "shifted"), (cP5, fun _ _ => lamQ "mirrored"), (cP22, fun _ _ => lamQ "law")] : List NdefX.NTab) from (.head _)), fun p hp e => by
        replace hp : p ∈ ([(cP4, fun _ _ => lamQ "shifted"), (cP5, fun _ _ => lamQ "mirrored"), (cP22, fun _ _ => lamQ "law")] : List NdefX.NTab) := hp
        simp only [List.mem_cons, List.not_mem_nil, or_false] at hp
        rcases hp with rfl | rfl | rfl
        · exact rfl
        · exact absurd e (Ne.symm lu4_5)
        · exact absurd e (Ne.symm lu4_22)⟩
  have M_mirrored : Mk mg "mirrored" base0 cc5 := ⟨cP5, tbs (cc5, cP5) (.tail _ (.head _)), (show (cP5, fun _ _ => lamQ "mirrored") ∈ ([(cP4, fun _ _ => lamQ "shifted"), (cP5, fun _ _ => lamQ "mirrored"), (cP22, fun _ _ => lamQ "law")] : List NdefX.NTab) from (.tail _ (.head _))), fun p hp e => by
        replace hp : p ∈ ([(cP4, fun _ _ => lamQ "shifted"), (cP5, fun _ _ => lamQ "mirrored"), (cP22, fun _ _ => lamQ "law")] : List NdefX.NTab) := hp
        simp only [List.mem_cons, List.not_mem_nil, or_false] at hp
        rcases hp with rfl | rfl | rfl
        · exact absurd e lu4_5
        · exact rfl
        · exact absurd e (Ne.symm lu5_22)⟩
  have M_law : Mk mg "law" base0 cc22 := ⟨cP22, tbs (cc22, cP22) (.tail _ (.tail _ (.head _))), (show (cP22, fun _ _ => lamQ "law") ∈ ([(cP4, fun _ _ => lamQ "shifted"), (cP5, fun _ _ => lamQ "mirrored"), (cP22, fun _ _ => lamQ "law")] : List NdefX.NTab) from (.tail _ (.tail _ (.head _)))), fun p hp e => by
        replace hp : p ∈ ([(cP4, fun _ _ => lamQ "shifted"), (cP5, fun _ _ => lamQ "mirrored"), (cP22, fun _ _ => lamQ "law")] : List NdefX.NTab) := hp
        simp only [List.mem_cons, List.not_mem_nil, or_false] at hp
        rcases hp with rfl | rfl | rfl
        · exact absurd e lu4_22
        · exact absurd e lu5_22
        · exact rfl⟩
  have hm_NoStep := PySem.W.mg_of X G mc_NoStep
  have hv_NoStep := cvG_own hm_NoStep
  have hm_LostError := PySem.W.mg_of X G mc_LostError
  have hv_LostError := cvG_own hm_LostError
  have hm_NoSide := PySem.W.mg_of X G mc_NoSide
  have hv_NoSide := cvG_own hm_NoSide
  have hm_NoExact := PySem.W.mg_of X G mc_NoExact
  have hv_NoExact := cvG_own hm_NoExact
  have hm_InkError := PySem.W.mg_of X G mc_InkError
  have hv_InkError := cvG_own hm_InkError
  have hm_LookupError := PySem.W.mg_none_of X G mc_LookupError
  have hv_LookupError := cvG_blt hm_LookupError (show bootBuiltins "LookupError" = some (.type "LookupError") by decide +kernel)
  have hm_NoCell := PySem.W.mg_of X G mc_NoCell
  have hv_NoCell := cvG_own hm_NoCell
  have hm_NoLayer := PySem.W.mg_of X G mc_NoLayer
  have hv_NoLayer := cvG_own hm_NoLayer
  have hm_NoName := PySem.W.mg_of X G mc_NoName
  have hv_NoName := cvG_own hm_NoName
  have hm_NoPaper := PySem.W.mg_of X G mc_NoPaper
  have hv_NoPaper := cvG_own hm_NoPaper
  have hm_NoRatio := PySem.W.mg_of X G mc_NoRatio
  have hv_NoRatio := cvG_own hm_NoRatio
  have hm_NoRow := PySem.W.mg_of X G mc_NoRow
  have hv_NoRow := cvG_own hm_NoRow
  have hm_NoText := PySem.W.mg_of X G mc_NoText
  have hv_NoText := cvG_own hm_NoText
  have hm_ValueError := PySem.W.mg_none_of X G mc_ValueError
  have hv_ValueError := cvG_blt hm_ValueError (show bootBuiltins "ValueError" = some (.type "ValueError") by decide +kernel)
  have hm_ZeroError := PySem.W.mg_of X G mc_ZeroError
  have hv_ZeroError := cvG_own hm_ZeroError
  have xx_NoStep := xi_NoStep (fun_mk (st := s_init_NoStep) il_NoStep ic_NoStep ikp_NoStep) ⟨⟨nm_NoStep, qn_NoStep, N_NoStep, bs_NoStep, _, sn_NoStep, sb_NoStep, ab_NoStep, cl_NoStep, dd_NoStep, k0_NoStep, k1_NoStep, k2_NoStep, k3_NoStep, k5_NoStep, xl_NoStep, .own .base⟩, sa_NoStep, eb_NoStep, ty_NoStep, kc_NoStep⟩ hm_LostError ⟨ba_LostError, br_LostError, bf_LostError, rfl⟩ hm_NoStep mc_NoStep ii_NoStep it_NoStep no_NoStep_number
  have xx_NoSide := xi_NoSide (fun_mk (st := s_init_NoSide) il_NoSide ic_NoSide ikp_NoSide) ⟨⟨nm_NoSide, qn_NoSide, N_NoSide, bs_NoSide, _, sn_NoSide, sb_NoSide, ab_NoSide, cl_NoSide, dd_NoSide, k0_NoSide, k1_NoSide, k2_NoSide, k3_NoSide, k5_NoSide, xl_NoSide, .own .base⟩, sa_NoSide, eb_NoSide, ty_NoSide, kc_NoSide⟩ hm_LostError ⟨ba_LostError, br_LostError, bf_LostError, rfl⟩ hm_NoSide mc_NoSide ii_NoSide it_NoSide no_NoSide_number
  have xx_NoExact := xi_NoExact (fun_mk (st := s_init_NoExact) il_NoExact ic_NoExact ikp_NoExact) ⟨⟨nm_NoExact, qn_NoExact, N_NoExact, bs_NoExact, _, sn_NoExact, sb_NoExact, ab_NoExact, cl_NoExact, dd_NoExact, k0_NoExact, k1_NoExact, k2_NoExact, k3_NoExact, k5_NoExact, xl_NoExact, .own .base⟩, sa_NoExact, eb_NoExact, ty_NoExact, kc_NoExact⟩ hm_InkError ⟨ba_InkError, br_InkError, bf_InkError, rfl⟩ hm_NoExact mc_NoExact ii_NoExact it_NoExact no_NoExact_side
  have bx : ∀ C ∈ excD, ∀ aC, PySem.W.nsIn K mainGlobals C = some (some (.ref aC)) → ExcC K aC ∧ XfC K aC := by
    intro C hC aC h
    simp only [excD, List.mem_cons, List.not_mem_nil, or_false] at hC
    rcases hC with rfl | rfl | rfl
    · cases mc_NoStep.symm.trans h
      exact ⟨⟨gg_NoStep, gk_NoStep, eb_NoStep, hd_NoStep, ha_NoStep, g_cn, g_ct, mo_NoStep⟩, ⟨gg_NoStep, gk_NoStep, eb_NoStep, hd_NoStep⟩⟩
    · cases mc_NoSide.symm.trans h
      exact ⟨⟨gg_NoSide, gk_NoSide, eb_NoSide, hd_NoSide, ha_NoSide, g_cn, g_ct, mo_NoSide⟩, ⟨gg_NoSide, gk_NoSide, eb_NoSide, hd_NoSide⟩⟩
    · cases mc_NoExact.symm.trans h
      exact ⟨⟨gg_NoExact, gk_NoExact, eb_NoExact, hd_NoExact, ha_NoExact, g_cn, g_ct, mo_NoExact⟩, ⟨gg_NoExact, gk_NoExact, eb_NoExact, hd_NoExact⟩⟩
  have bk_InkError : ∀ C ∈ excD, ∀ aC, PySem.W.nsIn K mainGlobals C = some (some (.ref aC)) → PySem.W.kitOne K (.ref aC) (cvG mg "InkError") = some (subX C "InkError") := by
    intro C hC aC h
    simp only [excD, List.mem_cons, List.not_mem_nil, or_false] at hC
    rcases hC with rfl | rfl | rfl
    · cases mc_NoStep.symm.trans h
      rw [hv_InkError, kt_NoStep_InkError]; exact congrArg some (by decide +kernel)
    · cases mc_NoSide.symm.trans h
      rw [hv_InkError, kt_NoSide_InkError]; exact congrArg some (by decide +kernel)
    · cases mc_NoExact.symm.trans h
      rw [hv_InkError, kt_NoExact_InkError]; exact congrArg some (by decide +kernel)
  have bk_LookupError : ∀ C ∈ excD, ∀ aC, PySem.W.nsIn K mainGlobals C = some (some (.ref aC)) → PySem.W.kitOne K (.ref aC) (cvG mg "LookupError") = some (subX C "LookupError") := by
    intro C hC aC h
    simp only [excD, List.mem_cons, List.not_mem_nil, or_false] at hC
    rcases hC with rfl | rfl | rfl
    · cases mc_NoStep.symm.trans h
      rw [hv_LookupError, kt_NoStep_LookupError]; exact congrArg some (by decide +kernel)
    · cases mc_NoSide.symm.trans h
      rw [hv_LookupError, kt_NoSide_LookupError]; exact congrArg some (by decide +kernel)
    · cases mc_NoExact.symm.trans h
      rw [hv_LookupError, kt_NoExact_LookupError]; exact congrArg some (by decide +kernel)
  have bk_LostError : ∀ C ∈ excD, ∀ aC, PySem.W.nsIn K mainGlobals C = some (some (.ref aC)) → PySem.W.kitOne K (.ref aC) (cvG mg "LostError") = some (subX C "LostError") := by
    intro C hC aC h
    simp only [excD, List.mem_cons, List.not_mem_nil, or_false] at hC
    rcases hC with rfl | rfl | rfl
    · cases mc_NoStep.symm.trans h
      rw [hv_LostError, kt_NoStep_LostError]; exact congrArg some (by decide +kernel)
    · cases mc_NoSide.symm.trans h
      rw [hv_LostError, kt_NoSide_LostError]; exact congrArg some (by decide +kernel)
    · cases mc_NoExact.symm.trans h
      rw [hv_LostError, kt_NoExact_LostError]; exact congrArg some (by decide +kernel)
  have bk_NoCell : ∀ C ∈ excD, ∀ aC, PySem.W.nsIn K mainGlobals C = some (some (.ref aC)) → PySem.W.kitOne K (.ref aC) (cvG mg "NoCell") = some (subX C "NoCell") := by
    intro C hC aC h
    simp only [excD, List.mem_cons, List.not_mem_nil, or_false] at hC
    rcases hC with rfl | rfl | rfl
    · cases mc_NoStep.symm.trans h
      rw [hv_NoCell, kt_NoStep_NoCell]; exact congrArg some (by decide +kernel)
    · cases mc_NoSide.symm.trans h
      rw [hv_NoCell, kt_NoSide_NoCell]; exact congrArg some (by decide +kernel)
    · cases mc_NoExact.symm.trans h
      rw [hv_NoCell, kt_NoExact_NoCell]; exact congrArg some (by decide +kernel)
  have bk_NoExact : ∀ C ∈ excD, ∀ aC, PySem.W.nsIn K mainGlobals C = some (some (.ref aC)) → PySem.W.kitOne K (.ref aC) (cvG mg "NoExact") = some (subX C "NoExact") := by
    intro C hC aC h
    simp only [excD, List.mem_cons, List.not_mem_nil, or_false] at hC
    rcases hC with rfl | rfl | rfl
    · cases mc_NoStep.symm.trans h
      rw [hv_NoExact, kt_NoStep_NoExact]; exact congrArg some (by decide +kernel)
    · cases mc_NoSide.symm.trans h
      rw [hv_NoExact, kt_NoSide_NoExact]; exact congrArg some (by decide +kernel)
    · cases mc_NoExact.symm.trans h
      rw [hv_NoExact, kt_NoExact_NoExact]; exact congrArg some (by decide +kernel)
  have bk_NoLayer : ∀ C ∈ excD, ∀ aC, PySem.W.nsIn K mainGlobals C = some (some (.ref aC)) → PySem.W.kitOne K (.ref aC) (cvG mg "NoLayer") = some (subX C "NoLayer") := by
    intro C hC aC h
    simp only [excD, List.mem_cons, List.not_mem_nil, or_false] at hC
    rcases hC with rfl | rfl | rfl
    · cases mc_NoStep.symm.trans h
      rw [hv_NoLayer, kt_NoStep_NoLayer]; exact congrArg some (by decide +kernel)
    · cases mc_NoSide.symm.trans h
      rw [hv_NoLayer, kt_NoSide_NoLayer]; exact congrArg some (by decide +kernel)
    · cases mc_NoExact.symm.trans h
      rw [hv_NoLayer, kt_NoExact_NoLayer]; exact congrArg some (by decide +kernel)
  have bk_NoName : ∀ C ∈ excD, ∀ aC, PySem.W.nsIn K mainGlobals C = some (some (.ref aC)) → PySem.W.kitOne K (.ref aC) (cvG mg "NoName") = some (subX C "NoName") := by
    intro C hC aC h
    simp only [excD, List.mem_cons, List.not_mem_nil, or_false] at hC
    rcases hC with rfl | rfl | rfl
    · cases mc_NoStep.symm.trans h
      rw [hv_NoName, kt_NoStep_NoName]; exact congrArg some (by decide +kernel)
    · cases mc_NoSide.symm.trans h
      rw [hv_NoName, kt_NoSide_NoName]; exact congrArg some (by decide +kernel)
    · cases mc_NoExact.symm.trans h
      rw [hv_NoName, kt_NoExact_NoName]; exact congrArg some (by decide +kernel)
  have bk_NoPaper : ∀ C ∈ excD, ∀ aC, PySem.W.nsIn K mainGlobals C = some (some (.ref aC)) → PySem.W.kitOne K (.ref aC) (cvG mg "NoPaper") = some (subX C "NoPaper") := by
    intro C hC aC h
    simp only [excD, List.mem_cons, List.not_mem_nil, or_false] at hC
    rcases hC with rfl | rfl | rfl
    · cases mc_NoStep.symm.trans h
      rw [hv_NoPaper, kt_NoStep_NoPaper]; exact congrArg some (by decide +kernel)
    · cases mc_NoSide.symm.trans h
      rw [hv_NoPaper, kt_NoSide_NoPaper]; exact congrArg some (by decide +kernel)
    · cases mc_NoExact.symm.trans h
      rw [hv_NoPaper, kt_NoExact_NoPaper]; exact congrArg some (by decide +kernel)
  have bk_NoRatio : ∀ C ∈ excD, ∀ aC, PySem.W.nsIn K mainGlobals C = some (some (.ref aC)) → PySem.W.kitOne K (.ref aC) (cvG mg "NoRatio") = some (subX C "NoRatio") := by
    intro C hC aC h
    simp only [excD, List.mem_cons, List.not_mem_nil, or_false] at hC
    rcases hC with rfl | rfl | rfl
    · cases mc_NoStep.symm.trans h
      rw [hv_NoRatio, kt_NoStep_NoRatio]; exact congrArg some (by decide +kernel)
    · cases mc_NoSide.symm.trans h
      rw [hv_NoRatio, kt_NoSide_NoRatio]; exact congrArg some (by decide +kernel)
    · cases mc_NoExact.symm.trans h
      rw [hv_NoRatio, kt_NoExact_NoRatio]; exact congrArg some (by decide +kernel)
  have bk_NoRow : ∀ C ∈ excD, ∀ aC, PySem.W.nsIn K mainGlobals C = some (some (.ref aC)) → PySem.W.kitOne K (.ref aC) (cvG mg "NoRow") = some (subX C "NoRow") := by
    intro C hC aC h
    simp only [excD, List.mem_cons, List.not_mem_nil, or_false] at hC
    rcases hC with rfl | rfl | rfl
    · cases mc_NoStep.symm.trans h
      rw [hv_NoRow, kt_NoStep_NoRow]; exact congrArg some (by decide +kernel)
    · cases mc_NoSide.symm.trans h
      rw [hv_NoRow, kt_NoSide_NoRow]; exact congrArg some (by decide +kernel)
    · cases mc_NoExact.symm.trans h
      rw [hv_NoRow, kt_NoExact_NoRow]; exact congrArg some (by decide +kernel)
  have bk_NoSide : ∀ C ∈ excD, ∀ aC, PySem.W.nsIn K mainGlobals C = some (some (.ref aC)) → PySem.W.kitOne K (.ref aC) (cvG mg "NoSide") = some (subX C "NoSide") := by
    intro C hC aC h
    simp only [excD, List.mem_cons, List.not_mem_nil, or_false] at hC
    rcases hC with rfl | rfl | rfl
    · cases mc_NoStep.symm.trans h
      rw [hv_NoSide, kt_NoStep_NoSide]; exact congrArg some (by decide +kernel)
    · cases mc_NoSide.symm.trans h
      rw [hv_NoSide, kt_NoSide_NoSide]; exact congrArg some (by decide +kernel)
    · cases mc_NoExact.symm.trans h
      rw [hv_NoSide, kt_NoExact_NoSide]; exact congrArg some (by decide +kernel)
  have bk_NoStep : ∀ C ∈ excD, ∀ aC, PySem.W.nsIn K mainGlobals C = some (some (.ref aC)) → PySem.W.kitOne K (.ref aC) (cvG mg "NoStep") = some (subX C "NoStep") := by
    intro C hC aC h
    simp only [excD, List.mem_cons, List.not_mem_nil, or_false] at hC
    rcases hC with rfl | rfl | rfl
    · cases mc_NoStep.symm.trans h
      rw [hv_NoStep, kt_NoStep_NoStep]; exact congrArg some (by decide +kernel)
    · cases mc_NoSide.symm.trans h
      rw [hv_NoStep, kt_NoSide_NoStep]; exact congrArg some (by decide +kernel)
    · cases mc_NoExact.symm.trans h
      rw [hv_NoStep, kt_NoExact_NoStep]; exact congrArg some (by decide +kernel)
  have bk_NoText : ∀ C ∈ excD, ∀ aC, PySem.W.nsIn K mainGlobals C = some (some (.ref aC)) → PySem.W.kitOne K (.ref aC) (cvG mg "NoText") = some (subX C "NoText") := by
    intro C hC aC h
    simp only [excD, List.mem_cons, List.not_mem_nil, or_false] at hC
    rcases hC with rfl | rfl | rfl
    · cases mc_NoStep.symm.trans h
      rw [hv_NoText, kt_NoStep_NoText]; exact congrArg some (by decide +kernel)
    · cases mc_NoSide.symm.trans h
      rw [hv_NoText, kt_NoSide_NoText]; exact congrArg some (by decide +kernel)
    · cases mc_NoExact.symm.trans h
      rw [hv_NoText, kt_NoExact_NoText]; exact congrArg some (by decide +kernel)
  have bk_ValueError : ∀ C ∈ excD, ∀ aC, PySem.W.nsIn K mainGlobals C = some (some (.ref aC)) → PySem.W.kitOne K (.ref aC) (cvG mg "ValueError") = some (subX C "ValueError") := by
    intro C hC aC h
    simp only [excD, List.mem_cons, List.not_mem_nil, or_false] at hC
    rcases hC with rfl | rfl | rfl
    · cases mc_NoStep.symm.trans h
      rw [hv_ValueError, kt_NoStep_ValueError]; exact congrArg some (by decide +kernel)
    · cases mc_NoSide.symm.trans h
      rw [hv_ValueError, kt_NoSide_ValueError]; exact congrArg some (by decide +kernel)
    · cases mc_NoExact.symm.trans h
      rw [hv_ValueError, kt_NoExact_ValueError]; exact congrArg some (by decide +kernel)
  have bk_ZeroError : ∀ C ∈ excD, ∀ aC, PySem.W.nsIn K mainGlobals C = some (some (.ref aC)) → PySem.W.kitOne K (.ref aC) (cvG mg "ZeroError") = some (subX C "ZeroError") := by
    intro C hC aC h
    simp only [excD, List.mem_cons, List.not_mem_nil, or_false] at hC
    rcases hC with rfl | rfl | rfl
    · cases mc_NoStep.symm.trans h
      rw [hv_ZeroError, kt_NoStep_ZeroError]; exact congrArg some (by decide +kernel)
    · cases mc_NoSide.symm.trans h
      rw [hv_ZeroError, kt_NoSide_ZeroError]; exact congrArg some (by decide +kernel)
    · cases mc_NoExact.symm.trans h
      rw [hv_ZeroError, kt_NoExact_ZeroError]; exact congrArg some (by decide +kernel)
  have be_InkError : ∀ C ∈ excD, ∀ aC, PySem.W.nsIn K mainGlobals C = some (some (.ref aC)) → PySem.W.exmOne K (.ref aC) (cvG mg "InkError") = some (subX C "InkError") := by
    intro C hC aC h
    simp only [excD, List.mem_cons, List.not_mem_nil, or_false] at hC
    rcases hC with rfl | rfl | rfl
    · cases mc_NoStep.symm.trans h
      rw [hv_InkError, PySem.W.exm_ref xb_InkError xh_InkError xt_InkError ex_NoStep_InkError]; exact congrArg some (by decide +kernel)
    · cases mc_NoSide.symm.trans h
      rw [hv_InkError, PySem.W.exm_ref xb_InkError xh_InkError xt_InkError ex_NoSide_InkError]; exact congrArg some (by decide +kernel)
    · cases mc_NoExact.symm.trans h
      rw [hv_InkError, PySem.W.exm_ref xb_InkError xh_InkError xt_InkError ex_NoExact_InkError]; exact congrArg some (by decide +kernel)
  have be_LostError : ∀ C ∈ excD, ∀ aC, PySem.W.nsIn K mainGlobals C = some (some (.ref aC)) → PySem.W.exmOne K (.ref aC) (cvG mg "LostError") = some (subX C "LostError") := by
    intro C hC aC h
    simp only [excD, List.mem_cons, List.not_mem_nil, or_false] at hC
    rcases hC with rfl | rfl | rfl
    · cases mc_NoStep.symm.trans h
      rw [hv_LostError, PySem.W.exm_ref xb_LostError xh_LostError xt_LostError ex_NoStep_LostError]; exact congrArg some (by decide +kernel)
    · cases mc_NoSide.symm.trans h
      rw [hv_LostError, PySem.W.exm_ref xb_LostError xh_LostError xt_LostError ex_NoSide_LostError]; exact congrArg some (by decide +kernel)
    · cases mc_NoExact.symm.trans h
      rw [hv_LostError, PySem.W.exm_ref xb_LostError xh_LostError xt_LostError ex_NoExact_LostError]; exact congrArg some (by decide +kernel)
  have tn_InkError : TnF mg "InkError" := tnF_own hm_InkError
  have tn_LookupError : TnF mg "LookupError" := tnF_blt hm_LookupError (show bootBuiltins "LookupError" = some (.type "LookupError") by decide +kernel) (by decide)
  have tn_LostError : TnF mg "LostError" := tnF_own hm_LostError
  have tn_NoCell : TnF mg "NoCell" := tnF_own hm_NoCell
  have tn_NoExact : TnF mg "NoExact" := tnF_own hm_NoExact
  have tn_NoLayer : TnF mg "NoLayer" := tnF_own hm_NoLayer
  have tn_NoName : TnF mg "NoName" := tnF_own hm_NoName
  have tn_NoPaper : TnF mg "NoPaper" := tnF_own hm_NoPaper
  have tn_NoRatio : TnF mg "NoRatio" := tnF_own hm_NoRatio
  have tn_NoRow : TnF mg "NoRow" := tnF_own hm_NoRow
  have tn_NoSide : TnF mg "NoSide" := tnF_own hm_NoSide
  have tn_NoStep : TnF mg "NoStep" := tnF_own hm_NoStep
  have tn_NoText : TnF mg "NoText" := tnF_own hm_NoText
  have tn_ValueError : TnF mg "ValueError" := tnF_blt hm_ValueError (show bootBuiltins "ValueError" = some (.type "ValueError") by decide +kernel) (by decide)
  have tn_ZeroError : TnF mg "ZeroError" := tnF_own hm_ZeroError
  have bh_number : ∀ C ∈ excD, ∀ aC, PySem.W.nsIn K mainGlobals C = some (some (.ref aC)) → PySem.W.findIn K (.ref aC) "number" = some none := by
    intro C hC aC h
    simp only [excD, List.mem_cons, List.not_mem_nil, or_false] at hC
    rcases hC with rfl | rfl | rfl
    · cases mc_NoStep.symm.trans h
      exact no_NoStep_number
    · cases mc_NoSide.symm.trans h
      exact no_NoSide_number
    · cases mc_NoExact.symm.trans h
      exact no_NoExact_number
  have bh_side : ∀ C ∈ excD, ∀ aC, PySem.W.nsIn K mainGlobals C = some (some (.ref aC)) → PySem.W.findIn K (.ref aC) "side" = some none := by
    intro C hC aC h
    simp only [excD, List.mem_cons, List.not_mem_nil, or_false] at hC
    rcases hC with rfl | rfl | rfl
    · cases mc_NoStep.symm.trans h
      exact no_NoStep_side
    · cases mc_NoSide.symm.trans h
      exact no_NoSide_side
    · cases mc_NoExact.symm.trans h
      exact no_NoExact_side
  have B : Bi K mg := ⟨PySem.W.mg_none_of X G z_isinstance, PySem.W.mg_none_of X G z_len, PySem.W.mg_none_of X G z_list, PySem.W.mg_none_of X G z_range, PySem.W.mg_none_of X G z_repr, PySem.W.mg_none_of X G z_tuple, PySem.W.mg_none_of X G z_zip, xx_NoStep, xx_NoSide, xx_NoExact, bx, bk_InkError, bk_LookupError, bk_LostError, bk_NoCell, bk_NoExact, bk_NoLayer, bk_NoName, bk_NoPaper, bk_NoRatio, bk_NoRow, bk_NoSide, bk_NoStep, bk_NoText, bk_ValueError, bk_ZeroError, be_InkError, be_LostError, tn_InkError, tn_LookupError, tn_LostError, tn_NoCell, tn_NoExact, tn_NoLayer, tn_NoName, tn_NoPaper, tn_NoRatio, tn_NoRow, tn_NoSide, tn_NoStep, tn_NoText, tn_ValueError, tn_ZeroError, bh_number, bh_side⟩
  have T0 : Tx K mg "ring_sides" s_ring_sides := ⟨⟨f0, _, PySem.W.mg_of X G a0, fun_mk (st := s_ring_sides) l0 c0 k0⟩⟩
  have T1 : Tx K mg "sides_of" s_sides_of := ⟨⟨f1, _, PySem.W.mg_of X G a1, fun_mk (st := s_sides_of) l1 c1 k1⟩⟩
  have T2 : Tx K mg "side_of" s_side_of := ⟨⟨f2, _, PySem.W.mg_of X G a2, fun_mk (st := s_side_of) l2 c2 k2⟩⟩
  have T3 : Tx K mg "each_point" s_each_point := ⟨⟨f3, _, PySem.W.mg_of X G a3, fun_mk (st := s_each_point) l3 c3 k3⟩⟩
  have T4 : TxC K mg "shifted" s_shifted cc4 := ⟨⟨f4, _, PySem.W.mg_of X G a4, fun_mk (st := s_shifted) l4 c4 k4, rfl⟩⟩
  have T5 : TxC K mg "mirrored" s_mirrored cc5 := ⟨⟨f5, _, PySem.W.mg_of X G a5, fun_mk (st := s_mirrored) l5 c5 k5, rfl⟩⟩
  have T6 : Tx K mg "reversed_path" s_reversed_path := ⟨⟨f6, _, PySem.W.mg_of X G a6, fun_mk (st := s_reversed_path) l6 c6 k6⟩⟩
  have T7 : Tx K mg "put" s_put := ⟨⟨f7, _, PySem.W.mg_of X G a7, fun_mk (st := s_put) l7 c7 k7⟩⟩
  have T8 : Tx K mg "begun_at" s_begun_at := ⟨⟨f8, _, PySem.W.mg_of X G a8, fun_mk (st := s_begun_at) l8 c8 k8⟩⟩
  have T9 : Tx K mg "with_point" s_with_point := ⟨⟨f9, _, PySem.W.mg_of X G a9, fun_mk (st := s_with_point) l9 c9 k9⟩⟩
  have T10 : Tx K mg "joined_paths" s_joined_paths := ⟨⟨f10, _, PySem.W.mg_of X G a10, fun_mk (st := s_joined_paths) l10 c10 k10⟩⟩
  have T11 : Tx K mg "_law_feed" s__law_feed := ⟨⟨f11, _, PySem.W.mg_of X G a11, fun_mk (st := s__law_feed) l11 c11 k11⟩⟩
  have T12 : Tx K mg "_law_draw" s__law_draw := ⟨⟨f12, _, PySem.W.mg_of X G a12, fun_mk (st := s__law_draw) l12 c12 k12⟩⟩
  have T13 : Tx K mg "_law_point" s__law_point := ⟨⟨f13, _, PySem.W.mg_of X G a13, fun_mk (st := s__law_point) l13 c13 k13⟩⟩
  have T14 : Tx K mg "_law_path" s__law_path := ⟨⟨f14, _, PySem.W.mg_of X G a14, fun_mk (st := s__law_path) l14 c14 k14⟩⟩
  have T15 : Tx K mg "_law_sides" s__law_sides := ⟨⟨f15, _, PySem.W.mg_of X G a15, fun_mk (st := s__law_sides) l15 c15 k15⟩⟩
  have T16 : Tx K mg "_law_each" s__law_each := ⟨⟨f16, _, PySem.W.mg_of X G a16, fun_mk (st := s__law_each) l16 c16 k16⟩⟩
  have T17 : Tx K mg "_law_back" s__law_back := ⟨⟨f17, _, PySem.W.mg_of X G a17, fun_mk (st := s__law_back) l17 c17 k17⟩⟩
  have T18 : Tx K mg "_law_refusal" s__law_refusal := ⟨⟨f18, _, PySem.W.mg_of X G a18, fun_mk (st := s__law_refusal) l18 c18 k18⟩⟩
  have T19 : Tx K mg "_law_asked" s__law_asked := ⟨⟨f19, _, PySem.W.mg_of X G a19, fun_mk (st := s__law_asked) l19 c19 k19⟩⟩
  have T20 : Tx K mg "_law_begun" s__law_begun := ⟨⟨f20, _, PySem.W.mg_of X G a20, fun_mk (st := s__law_begun) l20 c20 k20⟩⟩
  have T21 : Tx K mg "_law_with" s__law_with := ⟨⟨f21, _, PySem.W.mg_of X G a21, fun_mk (st := s__law_with) l21 c21 k21⟩⟩
  have F := fun_mk (st := s_law) l22 c22 k22
  have d_ring_sides : ∀ b, BE base0 b → Df l.prog w K mg b "ring_sides" ["ring"] 1 g_ring_sides := fun b hb => ok_ring_sides B T0 
  have d_sides_of : ∀ b, BE base0 b → Df l.prog w K mg b "sides_of" ["path"] 2 g_sides_of := fun b hb => ok_sides_of B T1 (d_ring_sides b hb)
  have d_side_of : ∀ b, BE base0 b → Df l.prog w K mg b "side_of" ["path", "number"] 3 g_side_of := fun b hb => ok_side_of B T2 (d_sides_of b hb)
  have d_each_point : ∀ b, BE base0 b → DfH l.prog w K mg b "each_point" ["path", "turn"] 1 2 g_each_point := fun b hb => ok_each_point B T3 
  have d_shifted : ∀ b, BE base0 b → Df l.prog w K mg b "shifted" ["path", "x", "y"] 3 g_shifted := fun b hb => ok_shifted B (M_shifted.be hb) (fun b2 hb2 => d_each_point b2 (hb.trans hb2)) T4
  have d_mirrored : ∀ b, BE base0 b → Df l.prog w K mg b "mirrored" ["path"] 3 g_mirrored := fun b hb => ok_mirrored B (M_mirrored.be hb) (fun b2 hb2 => d_each_point b2 (hb.trans hb2)) T5
  have d_reversed_path : ∀ b, BE base0 b → Df l.prog w K mg b "reversed_path" ["path"] 1 g_reversed_path := fun b hb => ok_reversed_path B T6 
  have d_put : ∀ b, BE base0 b → Df l.prog w K mg b "put" ["things", "at", "thing"] 1 g_put := fun b hb => ok_put B T7 
  have d_begun_at : ∀ b, BE base0 b → Df l.prog w K mg b "begun_at" ["path", "ring", "at"] 3 g_begun_at := fun b hb => ok_begun_at B T8 (d_put b hb)
  have d_with_point : ∀ b, BE base0 b → Df l.prog w K mg b "with_point" ["path", "number"] 4 g_with_point := fun b hb => ok_with_point B T9 (d_side_of b hb) (d_put b hb)
  have d_joined_paths : ∀ b, BE base0 b → Df l.prog w K mg b "joined_paths" ["one", "other"] 1 g_joined_paths := fun b hb => ok_joined_paths B T10 
  have d__law_feed : ∀ b, BE base0 b → Df l.prog w K mg b "_law_feed" ["script"] 1 g__law_feed := fun b hb => ok__law_feed B T11 
  have d__law_draw : ∀ b, BE base0 b → Df l.prog w K mg b "_law_draw" ["feed", "many"] 1 g__law_draw := fun b hb => ok__law_draw B T12 
  have d__law_point : ∀ b, BE base0 b → Df l.prog w K mg b "_law_point" ["feed", "far"] 2 g__law_point := fun b hb => ok__law_point B T13 (d__law_draw b hb)
  have d__law_path : ∀ b, BE base0 b → Df l.prog w K mg b "_law_path" ["feed"] 3 g__law_path := fun b hb => ok__law_path B T14 (d__law_draw b hb) (d__law_point b hb)
  have d__law_sides : ∀ b, BE base0 b → Df l.prog w K mg b "_law_sides" ["path"] 1 g__law_sides := fun b hb => ok__law_sides B T15 
  have d__law_each : ∀ b, BE base0 b → DfH l.prog w K mg b "_law_each" ["path", "turn"] 1 2 g__law_each := fun b hb => ok__law_each B T16 
  have d__law_back : ∀ b, BE base0 b → Df l.prog w K mg b "_law_back" ["ring"] 1 g__law_back := fun b hb => ok__law_back B T17 
  have d__law_refusal : ∀ b, BE base0 b → ∀ (C : Str), C ∈ excD → ∀ (aC xa xd : Addr) (oe : Obj), PySem.W.nsIn K mainGlobals C = some (some (.ref aC)) → Zc (.ref aC) (some xd) oe → (∃ vs, oe.data = .fields vs) → DfX l.prog w K mg b "_law_refusal" ["e"] 1 (gX (tb__law_refusal C xa xd) n__law_refusal xa) xa oe := fun b hb => ok__law_refusal B T18 
  have d__law_asked : ∀ b, BE base0 b → Df l.prog w K mg b "_law_asked" ["way", "path", "one", "other"] 5 g__law_asked := fun b hb => ok__law_asked B T19 (d__law_refusal b hb) (d_begun_at b hb) (d_with_point b hb)
  have d__law_begun : ∀ b, BE base0 b → Df l.prog w K mg b "_law_begun" ["path", "one", "other"] 1 g__law_begun := fun b hb => ok__law_begun B T20 
  have d__law_with : ∀ b, BE base0 b → Df l.prog w K mg b "_law_with" ["path", "number"] 2 g__law_with := fun b hb => ok__law_with B T21 (d__law_sides b hb)
  exact ok_law B F M_law (fun b hb => d__law_feed b hb) (fun b hb => d__law_path b hb) (fun b hb => d_shifted b hb) (fun b hb => d_mirrored b hb) (fun b hb => d_reversed_path b hb) (fun b hb => d_joined_paths b hb) (fun b hb => d__law_each b hb) (fun b hb => d__law_sides b hb) (fun b hb => d__law_draw b hb) (fun b hb => d__law_asked b hb) (fun b hb => d__law_with b hb) (fun b hb => d__law_back b hb) (fun b hb => d__law_begun b hb) rfl
end L2.DL
open PySem PySem.W PyProof.Rows
set_option maxRecDepth 100000 in
set_option maxHeartbeats 0 in
theorem PySem.Challenge.cw_inkcover_k09_turned_and_shifted_holds : PySem.Challenge.rw_inkcover_k09_turned_and_shifted.Holds := by
  w_on; o_law; k_head; (case hw => w_witness2)
  k_fill
  refine L2.DL.walkDT (l := PySem.Challenge.rw_inkcover_k09_turned_and_shifted) (k := 6) (x := "script") (g := L2.DL.g_law) rfl rfl ⟨rfl, by decide, by decide⟩ (fun w h Y => PySem.W.km_in_of Y) ?F (fun ns h _ => @L2.DL.law_holds ⟨[]⟩ ns h)
  case F =>
    intro w mg fa h Y KX G hmg
    have hT8 := PySem.W.km_tabs_of Y
    refine' L2.DL.all_mk KX G hmg ?a0 ?l0 ?c0 ?k0 ?a1 ?l1 ?c1 ?k1 ?a2 ?l2 ?c2 ?k2 ?a3 ?l3 ?c3 ?k3 ?a4 ?l4 ?c4 ?k4 ?lk4 ?lp4 ?lh4 ?lt4 ?ln4 ?a5 ?l5 ?c5 ?k5 ?lk5 ?lp5 ?lh5 ?lt5 ?ln5 ?a6 ?l6 ?c6 ?k6 ?a7 ?l7 ?c7 ?k7 ?a8 ?l8 ?c8 ?k8 ?a9 ?l9 ?c9 ?k9 ?a10 ?l10 ?c10 ?k10 ?a11 ?l11 ?c11 ?k11 ?a12 ?l12 ?c12 ?k12 ?a13 ?l13 ?c13 ?k13 ?a14 ?l14 ?c14 ?k14 ?a15 ?l15 ?c15 ?k15 ?a16 ?l16 ?c16 ?k16 ?a17 ?l17 ?c17 ?k17 ?a18 ?l18 ?c18 ?k18 ?a19 ?l19 ?c19 ?k19 ?a20 ?l20 ?c20 ?k20 ?a21 ?l21 ?c21 ?k21 ?a22 ?l22 ?c22 ?k22 ?lk22 ?lp22 ?lh22 ?lt22 ?ln22 ?lu4_5 ?lu4_22 ?lu5_22 ?z_isinstance ?z_len ?z_list ?z_range ?z_repr ?z_tuple ?z_zip ?mc_NoStep ?mc_LostError ?mc_NoSide ?mc_NoExact ?mc_InkError ?mc_LookupError ?mc_NoCell ?mc_NoLayer ?mc_NoName ?mc_NoPaper ?mc_NoRatio ?mc_NoRow ?mc_NoText ?mc_ValueError ?mc_ZeroError ?g_cn ?g_ct ?ba_LostError ?br_LostError ?bf_LostError ?ba_InkError ?br_InkError ?bf_InkError ?xl_NoStep ?sa_NoStep ?eb_NoStep ?ty_NoStep ?kc_NoStep ?gg_NoStep ?gk_NoStep ?hd_NoStep ?ha_NoStep ?mo_NoStep ?ii_NoStep ?it_NoStep ?il_NoStep ?ic_NoStep ?ikp_NoStep ?no_NoStep_number ?no_NoStep_side ?kt_NoStep_InkError ?kt_NoStep_LookupError ?kt_NoStep_LostError ?kt_NoStep_NoCell ?kt_NoStep_NoExact ?kt_NoStep_NoLayer ?kt_NoStep_NoName ?kt_NoStep_NoPaper ?kt_NoStep_NoRatio ?kt_NoStep_NoRow ?kt_NoStep_NoSide ?kt_NoStep_NoStep ?kt_NoStep_NoText ?kt_NoStep_ValueError ?kt_NoStep_ZeroError ?ex_NoStep_InkError ?ex_NoStep_LostError ?xl_NoSide ?sa_NoSide ?eb_NoSide ?ty_NoSide ?kc_NoSide ?gg_NoSide ?gk_NoSide ?hd_NoSide ?ha_NoSide ?mo_NoSide ?ii_NoSide ?it_NoSide ?il_NoSide ?ic_NoSide ?ikp_NoSide ?no_NoSide_number ?no_NoSide_side ?kt_NoSide_InkError ?kt_NoSide_LookupError ?kt_NoSide_LostError ?kt_NoSide_NoCell ?kt_NoSide_NoExact ?kt_NoSide_NoLayer ?kt_NoSide_NoName ?kt_NoSide_NoPaper ?kt_NoSide_NoRatio ?kt_NoSide_NoRow ?kt_NoSide_NoSide ?kt_NoSide_NoStep ?kt_NoSide_NoText ?kt_NoSide_ValueError ?kt_NoSide_ZeroError ?ex_NoSide_InkError ?ex_NoSide_LostError ?xl_NoExact ?sa_NoExact ?eb_NoExact ?ty_NoExact ?kc_NoExact ?gg_NoExact ?gk_NoExact ?hd_NoExact ?ha_NoExact ?mo_NoExact ?ii_NoExact ?it_NoExact ?il_NoExact ?ic_NoExact ?ikp_NoExact ?no_NoExact_number ?no_NoExact_side ?kt_NoExact_InkError ?kt_NoExact_LookupError ?kt_NoExact_LostError ?kt_NoExact_NoCell ?kt_NoExact_NoExact ?kt_NoExact_NoLayer ?kt_NoExact_NoName ?kt_NoExact_NoPaper ?kt_NoExact_NoRatio ?kt_NoExact_NoRow ?kt_NoExact_NoSide ?kt_NoExact_NoStep ?kt_NoExact_NoText ?kt_NoExact_ValueError ?kt_NoExact_ZeroError ?ex_NoExact_InkError ?ex_NoExact_LostError ?xb_InkError ?xh_InkError ?xt_InkError ?xb_LostError ?xh_LostError ?xt_LostError
    (case a0 => k_is)
    (case l0 => k_is)
    (case c0 => k_is)
    (case k0 => k_is)
    (case a1 => k_is)
    (case l1 => k_is)
    (case c1 => k_is)
    (case k1 => k_is)
    (case a2 => k_is)
    (case l2 => k_is)
    (case c2 => k_is)
    (case k2 => k_is)
    (case a3 => k_is)
    (case l3 => k_is)
    (case c3 => k_is)
    (case k3 => k_is)
    (case a4 => k_is)
    (case l4 => k_is)
    (case c4 => k_is)
    (case k4 => k_is)
    (case lk4 => k_is)
    (case lp4 => exact rfl)
    (case lh4 => kernel_rfl)
    (case lt4 => exact hT8 _ (by k_mem))
    (case ln4 => kernel_rfl)
    (case a5 => k_is)
    (case l5 => k_is)
    (case c5 => k_is)
    (case k5 => k_is)
    (case lk5 => k_is)
    (case lp5 => exact rfl)
    (case lh5 => kernel_rfl)
    (case lt5 => exact hT8 _ (by k_mem))
    (case ln5 => kernel_rfl)
    (case a6 => k_is)
    (case l6 => k_is)
    (case c6 => k_is)
    (case k6 => k_is)
    (case a7 => k_is)
    (case l7 => k_is)
    (case c7 => k_is)
    (case k7 => k_is)
    (case a8 => k_is)
    (case l8 => k_is)
    (case c8 => k_is)
    (case k8 => k_is)
    (case a9 => k_is)
    (case l9 => k_is)
    (case c9 => k_is)
    (case k9 => k_is)
    (case a10 => k_is)
    (case l10 => k_is)
    (case c10 => k_is)
    (case k10 => k_is)
    (case a11 => k_is)
    (case l11 => k_is)
    (case c11 => k_is)
    (case k11 => k_is)
    (case a12 => k_is)
    (case l12 => k_is)
    (case c12 => k_is)
    (case k12 => k_is)
    (case a13 => k_is)
    (case l13 => k_is)
    (case c13 => k_is)
    (case k13 => k_is)
    (case a14 => k_is)
    (case l14 => k_is)
    (case c14 => k_is)
    (case k14 => k_is)
    (case a15 => k_is)
    (case l15 => k_is)
    (case c15 => k_is)
    (case k15 => k_is)
    (case a16 => k_is)
    (case l16 => k_is)
    (case c16 => k_is)
    (case k16 => k_is)
    (case a17 => k_is)
    (case l17 => k_is)
    (case c17 => k_is)
    (case k17 => k_is)
    (case a18 => k_is)
    (case l18 => k_is)
    (case c18 => k_is)
    (case k18 => k_is)
    (case a19 => k_is)
    (case l19 => k_is)
    (case c19 => k_is)
    (case k19 => k_is)
    (case a20 => k_is)
    (case l20 => k_is)
    (case c20 => k_is)
    (case k20 => k_is)
    (case a21 => k_is)
    (case l21 => k_is)
    (case c21 => k_is)
    (case k21 => k_is)
    (case a22 => k_is)
    (case l22 => k_is)
    (case c22 => k_is)
    (case k22 => k_is)
    (case lk22 => k_is)
    (case lp22 => exact rfl)
    (case lh22 => kernel_rfl)
    (case lt22 => exact hT8 _ (by k_mem))
    (case ln22 => kernel_rfl)
    (case lu4_5 => decide)
    (case lu4_22 => decide)
    (case lu5_22 => decide)
    (case z_isinstance => k_is)
    (case z_len => k_is)
    (case z_list => k_is)
    (case z_range => k_is)
    (case z_repr => k_is)
    (case z_tuple => k_is)
    (case z_zip => k_is)
    (case mc_NoStep => k_is)
    (case mc_LostError => k_is)
    (case mc_NoSide => k_is)
    (case mc_NoExact => k_is)
    (case mc_InkError => k_is)
    (case mc_LookupError => k_is)
    (case mc_NoCell => k_is)
    (case mc_NoLayer => k_is)
    (case mc_NoName => k_is)
    (case mc_NoPaper => k_is)
    (case mc_NoRatio => k_is)
    (case mc_NoRow => k_is)
    (case mc_NoText => k_is)
    (case mc_ValueError => k_is)
    (case mc_ZeroError => k_is)
    (case g_cn => k_is)
    (case g_ct => k_is)
    (case ba_LostError => k_is)
    (case br_LostError => k_is)
    (case bf_LostError => k_is)
    (case ba_InkError => k_is)
    (case br_InkError => k_is)
    (case bf_InkError => k_is)
    (case xl_NoStep => k_is)
    (case sa_NoStep => k_is)
    (case eb_NoStep => k_is)
    (case ty_NoStep => k_is)
    (case kc_NoStep => k_is)
    (case gg_NoStep => k_is)
    (case gk_NoStep => k_is)
    (case hd_NoStep => k_is)
    (case ha_NoStep => k_is)
    (case mo_NoStep => k_is)
    (case ii_NoStep => k_is)
    (case it_NoStep => k_is)
    (case il_NoStep => k_is)
    (case ic_NoStep => k_is)
    (case ikp_NoStep => k_is)
    (case no_NoStep_number => k_is)
    (case no_NoStep_side => k_is)
    (case kt_NoStep_InkError => kit_is)
    (case kt_NoStep_LookupError => kit_is)
    (case kt_NoStep_LostError => kit_is)
    (case kt_NoStep_NoCell => kit_is)
    (case kt_NoStep_NoExact => kit_is)
    (case kt_NoStep_NoLayer => kit_is)
    (case kt_NoStep_NoName => kit_is)
    (case kt_NoStep_NoPaper => kit_is)
    (case kt_NoStep_NoRatio => kit_is)
    (case kt_NoStep_NoRow => kit_is)
    (case kt_NoStep_NoSide => kit_is)
    (case kt_NoStep_NoStep => kit_is)
    (case kt_NoStep_NoText => kit_is)
    (case kt_NoStep_ValueError => kit_is)
    (case kt_NoStep_ZeroError => kit_is)
    (case ex_NoStep_InkError => k_is)
    (case ex_NoStep_LostError => k_is)
    (case xl_NoSide => k_is)
    (case sa_NoSide => k_is)
    (case eb_NoSide => k_is)
    (case ty_NoSide => k_is)
    (case kc_NoSide => k_is)
    (case gg_NoSide => k_is)
    (case gk_NoSide => k_is)
    (case hd_NoSide => k_is)
    (case ha_NoSide => k_is)
    (case mo_NoSide => k_is)
    (case ii_NoSide => k_is)
    (case it_NoSide => k_is)
    (case il_NoSide => k_is)
    (case ic_NoSide => k_is)
    (case ikp_NoSide => k_is)
    (case no_NoSide_number => k_is)
    (case no_NoSide_side => k_is)
    (case kt_NoSide_InkError => kit_is)
    (case kt_NoSide_LookupError => kit_is)
    (case kt_NoSide_LostError => kit_is)
    (case kt_NoSide_NoCell => kit_is)
    (case kt_NoSide_NoExact => kit_is)
    (case kt_NoSide_NoLayer => kit_is)
    (case kt_NoSide_NoName => kit_is)
    (case kt_NoSide_NoPaper => kit_is)
    (case kt_NoSide_NoRatio => kit_is)
    (case kt_NoSide_NoRow => kit_is)
    (case kt_NoSide_NoSide => kit_is)
    (case kt_NoSide_NoStep => kit_is)
    (case kt_NoSide_NoText => kit_is)
    (case kt_NoSide_ValueError => kit_is)
    (case kt_NoSide_ZeroError => kit_is)
    (case ex_NoSide_InkError => k_is)
    (case ex_NoSide_LostError => k_is)
    (case xl_NoExact => k_is)
    (case sa_NoExact => k_is)
    (case eb_NoExact => k_is)
    (case ty_NoExact => k_is)
    (case kc_NoExact => k_is)
    (case gg_NoExact => k_is)
    (case gk_NoExact => k_is)
    (case hd_NoExact => k_is)
    (case ha_NoExact => k_is)
    (case mo_NoExact => k_is)
    (case ii_NoExact => k_is)
    (case it_NoExact => k_is)
    (case il_NoExact => k_is)
    (case ic_NoExact => k_is)
    (case ikp_NoExact => k_is)
    (case no_NoExact_number => k_is)
    (case no_NoExact_side => k_is)
    (case kt_NoExact_InkError => kit_is)
    (case kt_NoExact_LookupError => kit_is)
    (case kt_NoExact_LostError => kit_is)
    (case kt_NoExact_NoCell => kit_is)
    (case kt_NoExact_NoExact => kit_is)
    (case kt_NoExact_NoLayer => kit_is)
    (case kt_NoExact_NoName => kit_is)
    (case kt_NoExact_NoPaper => kit_is)
    (case kt_NoExact_NoRatio => kit_is)
    (case kt_NoExact_NoRow => kit_is)
    (case kt_NoExact_NoSide => kit_is)
    (case kt_NoExact_NoStep => kit_is)
    (case kt_NoExact_NoText => kit_is)
    (case kt_NoExact_ValueError => kit_is)
    (case kt_NoExact_ZeroError => kit_is)
    (case ex_NoExact_InkError => k_is)
    (case ex_NoExact_LostError => k_is)
    (case xb_InkError => k_is)
    (case xh_InkError => k_is)
    (case xt_InkError => k_is)
    (case xb_LostError => k_is)
    (case xh_LostError => k_is)
    (case xt_LostError => k_is)
