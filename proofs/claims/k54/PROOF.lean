import PyProof.Rows.All
import HandS.More
import Wide.All
import OpenK.AllK
import Wide.FinOn
import HandS.ForMost
import HandS.ForExc
import HandS.Walk
import HandS.CallSlots
import KE.GoesZip
import KE.KDictKeyed
import HandS.Dict
import HandS.TupLen
import HandS.IsInst
import HandS.Deep
import HandS.Style
import PyProof.Rows.StrStep
import HandS.Text
import HandS.Zip
import KE.GoesMore
import HandS.ExcField
import KE.KExcIs
import PyProof.ExcBaseAll.ValueError
import HandS.ExcBuiltin
import HandS.ExcIs
import HandS.ExcInit
import HandS.HeadWalk
import HandS.Conv
import KE.KDictCopyH
import OpenK.KMake
import HandS.TupAny
import HandS.WideBits
import HandS.Nested
import HandS.EndTab
import HandS.List
import PyProof.StrLawsTight
import PySem.Challenge.RW_roomalgebra_k54_by_how_many_times
set_option Elab.async false
set_option linter.all false
set_option maxRecDepth 100000
set_option maxHeartbeats 4000000
/-! RA1: plain data D, and what it means that a value stands for it. -/
namespace RA
open PySem PySem.Spec PyProof.Rows L2
/-- plain data -/
inductive D where
  | non | bl (b : Bool) | int (i : Int) | str (s : List Nat) | tup (xs : List D) | lst (xs : List D) | dct (kvs : List (D × D)) | opq (n : Nat) (cs : List D)
/-- no table -/
def NoT : HO → Prop
  | .tbl _ => False
  | _ => True
/-- no cell that is told -/
def NoCel (b : Addr) (o : HO) : Prop := ∀ oc v, o = .frz oc (.own b) → oc.data ≠ .cell v
/-- what stands beside the plain kinds: closures, errors, own objects -/
structure OpT where
  op : (Addr → Prop) → Hp → Nat → List V → Addr → Prop
  op_mono : ∀ {B : Addr → Prop} {H H' : Hp} {n : Nat} {vs : List V} {a : Addr}, op B H n vs a → (∀ b o, ¬ B b → H b = some o → NoT o → H' b = some o) → (∀ b o u, H b = some (.frz o u) → H' b = some (.frz o u)) → op B H' n vs a
  op_grow : ∀ {B B' : Addr → Prop} {H : Hp} {n : Nat} {vs : List V} {a : Addr}, op B H n vs a → (∀ b, B' b → B b ∨ H b = none) → op B' H n vs a
  /-- only numbers from 1000 on lean on cells -/
  op_cel : ∀ {B : Addr → Prop} {H H' : Hp} {n : Nat} {vs : List V} {a : Addr}, n < 1000 → op B H n vs a → (∀ b o, H b = some o → NoT o → NoCel b o → H' b = some o) → op B H' n vs a
  ecls : Nat → Addr
  enames : Nat → List Str
structure Cfg extends OpT where
  P : Program
  w : World
  K : PySem.W.Frag
  mg : Str → Option Value
  base : Heap
abbrev cfg (X : Cx) (O : OpT) : Cfg := { toOpT := O, P := X.prog, w := X.w, K := X.K, mg := X.mg, base := X.base }
/-! ### code objects' tables: the defs and lambdas within defs -/
/-- the tables that are known, and the name that stands at each place -/
class Tabs where
  T : List (Addr × (Nat → Nat → Str))
/-- the object at c is a code object of the name q, and stays -/
def CodeF (H : Hp) (c : Addr) (q : Str) : Prop := ∃ (oc : Obj) (vs : Array Value) (t : Tok), H c = some (.frz oc (.own c)) ∧ oc.data = .fields vs ∧ vs[1]? = some (.str q t)
def TabF (H : Hp) (P : Addr) (nm : Nat → Nat → Str) : Prop := ∃ ps : Array Value, H P = some (.tbl ps) ∧ TriplesOk ps.toList ∧ ∀ (pos : Pos) (cv : Value), codeAmong pos ps.toList = some cv → ∃ c, cv = .ref c ∧ CodeF H c (nm pos.line pos.col)
variable [Tabs]
def TabsOk (H : Hp) : Prop := ∀ p ∈ (Tabs.T : List (Addr × (Nat → Nat → Str))), TabF H p.1 p.2
/-- the heap stays, but at B; tables may grow -/
structure Ext (B : Addr → Prop) (H H' : Hp) : Prop where
  keep : ∀ a o, ¬ B a → H a = some o → NoT o → H' a = some o
  tbl : ∀ a ps, ¬ B a → H a = some (.tbl ps) → ∃ qs, H' a = some (.tbl qs)
  tab : TabsOk H → TabsOk H'
  frz : ∀ a o u, H a = some (.frz o u) → H' a = some (.frz o u)
/-- the heap stays; tables may grow -/
structure Same (H H' : Hp) : Prop where
  keep : ∀ a o, H a = some o → NoT o → H' a = some o
  tbl : ∀ a ps, H a = some (.tbl ps) → ∃ qs, H' a = some (.tbl qs)
  tab : TabsOk H → TabsOk H'
theorem Ext.there {B : Addr → Prop} {H H' : Hp} (e : Ext B H H') (a : Addr) (hb : ¬ B a) (h : H a ≠ none) : H' a ≠ none := by
  obtain ⟨o, ho⟩ := Option.ne_none_iff_exists'.mp h
  have k := e.keep a o hb ho
  cases o with
  | tbl ps => obtain ⟨qs, q⟩ := e.tbl a ps hb ho; rw [q]; intro z; cases z
  | _ => rw [k trivial]; intro z; cases z
theorem Same.there {H H' : Hp} (e : Same H H') (a : Addr) (h : H a ≠ none) : H' a ≠ none := by
  obtain ⟨o, ho⟩ := Option.ne_none_iff_exists'.mp h
  have k := e.keep a o ho
  cases o with
  | tbl ps => obtain ⟨qs, q⟩ := e.tbl a ps ho; rw [q]; intro z; cases z
  | _ => rw [k trivial]; intro z; cases z
/-- what was no table is none -/
theorem Same.noT {H H' : Hp} (e : Same H H') {a : Addr} {o u : HO} (h : H a = some o) (h' : H' a = some u) (n : NoT u) : o = u := by
  have k := e.keep a o h
  cases o with
  | tbl ps => obtain ⟨qs, q⟩ := e.tbl a ps h; rw [h'] at q; cases q; exact n.elim
  | _ => rw [k trivial] at h'; exact Option.some.inj h'
theorem Ext.refl (B : Addr → Prop) (H : Hp) : Ext B H H := ⟨fun _ _ _ h _ => h, fun _ _ _ h => ⟨_, h⟩, fun h => h, fun _ _ _ h => h⟩
theorem Ext.trans {B : Addr → Prop} {H H1 H2 : Hp} (a : Ext B H H1) (b : Ext B H1 H2) : Ext B H H2 := ⟨fun c o hb h n => b.keep c o hb (a.keep c o hb h n) n, fun c ps hb h => let ⟨_, q⟩ := a.tbl c ps hb h; b.tbl c _ hb q, fun h => b.tab (a.tab h), fun c o u h => b.frz c o u (a.frz c o u h)⟩
theorem Ext.less {B B' : Addr → Prop} {H H' : Hp} (a : Ext B H H') (h : ∀ b, B b → B' b) : Ext B' H H' := ⟨fun c o hb => a.keep c o fun z => hb (h c z), fun c ps hb => a.tbl c ps fun z => hb (h c z), a.tab, a.frz⟩
theorem Same.refl (H : Hp) : Same H H := ⟨fun _ _ h _ => h, fun _ _ h => ⟨_, h⟩, fun h => h⟩
theorem Same.trans {H H1 H2 : Hp} (a : Same H H1) (b : Same H1 H2) : Same H H2 := ⟨fun c o h n => b.keep c o (a.keep c o h n) n, fun c ps h => let ⟨_, q⟩ := a.tbl c ps h; b.tbl c _ q, fun h => b.tab (a.tab h)⟩
theorem Same.free {H H' : Hp} (s : Same H H') {a : Addr} (h : H' a = none) : H a = none := by
  cases e : H a with
  | none => rfl
  | some o => exact absurd h (s.there a (by rw [e]; intro z; cases z))
theorem Same.ext {B : Addr → Prop} {H H' : Hp} (a : Same H H') : Ext B H H' := ⟨fun c o _ h => a.keep c o h, fun c ps _ h => a.tbl c ps h, a.tab, fun c o u h => a.keep c _ h trivial⟩
theorem Ext.same {B : Addr → Prop} {H H' : Hp} (a : Ext B H H') (h : ∀ b, ¬ B b) : Same H H' := ⟨fun c o => a.keep c o (h c), fun c ps => a.tbl c ps (h c), a.tab⟩
theorem TabF.mono {H H' : Hp} {P : Addr} {nm : Nat → Nat → Str} (t : TabF H P nm) (k1 : ∀ ps, H P = some (.tbl ps) → H' P = some (.tbl ps)) (k2 : ∀ c oc, H c = some (.frz oc (.own c)) → H' c = some (.frz oc (.own c))) : TabF H' P nm := by
  obtain ⟨ps, h1, h2, h3⟩ := t
  refine ⟨ps, k1 _ h1, h2, fun pos cv hc => ?_⟩
  obtain ⟨c, e, oc, vs, t, h, r⟩ := h3 pos cv hc
  exact ⟨c, e, oc, vs, t, k2 _ _ h, r⟩
theorem TabsOk.mono {H H' : Hp} (t : TabsOk H) (k1 : ∀ P ps, H P = some (.tbl ps) → H' P = some (.tbl ps)) (k2 : ∀ c oc, H c = some (.frz oc (.own c)) → H' c = some (.frz oc (.own c))) : TabsOk H' := fun p hp => (t p hp).mono (k1 _) k2
theorem TabsOk.all {H H' : Hp} (t : TabsOk H) (k : ∀ a o, H a = some o → H' a = some o) : TabsOk H' := t.mono (fun _ _ => k _ _) fun _ _ => k _ _
theorem Same.all {H H' : Hp} (k : ∀ a o, H a = some o → H' a = some o) : Same H H' := by
  exact ⟨fun a o h _ => k a o h, fun a ps h => ⟨ps, k a _ h⟩, fun t => TabsOk.all t k⟩
theorem Same.new {H : Hp} {p : Addr} {o : HO} (h : H p = none) : Same H (upd H p o) := Same.all fun a u e => by
  rw [upd_ne (ne_of_none e h)]
  exact e
/-- kinds that may be written -/
def OwnK : HO → Prop
  | .lst _ => True
  | .ext _ => True
  | _ => False
theorem TabsOk.wr {H H' : Hp} {a : Addr} {u : HO} (t : TabsOk H) (e : H a = some u) (hu : OwnK u) (hx : ∀ b, b ≠ a → H b ≠ none → H' b = H b) : TabsOk H' := by
  have ne : ∀ {b o}, H b = some o → ¬ OwnK o → b ≠ a := fun {b o} h n z => by
    rw [z, e] at h; cases h; exact n hu
  refine t.mono (fun P ps h => ?_) fun c oc h => ?_
  · rw [hx P (ne h id) (by rw [h]; intro z; cases z)]; exact h
  · rw [hx c (ne h id) (by rw [h]; intro z; cases z)]; exact h
/-- one is written -/
theorem Ext.wr {B : Addr → Prop} {H H' : Hp} {a : Addr} {u : HO} (e : H a = some u) (hu : OwnK u) (hb : B a) (hx : ∀ b, b ≠ a → H b ≠ none → H' b = H b) : Ext B H H' := by
  have k : ∀ b, ¬ B b → H b ≠ none → H' b = H b := fun b nb h => hx b (fun z => nb (z ▸ hb)) h
  exact ⟨fun b o nb h _ => by rw [k b nb (by rw [h]; intro z; cases z)]; exact h, fun b ps nb h => ⟨ps, by rw [k b nb (by rw [h]; intro z; cases z)]; exact h⟩, fun t => t.wr e hu hx, fun b o v h => by rw [hx b (fun z => by rw [z, e] at h; cases h; exact hu) (by rw [h]; intro z; cases z)]; exact h⟩
theorem Ext.upd {B : Addr → Prop} {H : Hp} {a : Addr} {u o : HO} (e : H a = some u) (hu : OwnK u) (hb : B a) : Ext B H (upd H a o) := Ext.wr e hu hb fun b nb _ => upd_ne nb
/-- an own list, tuple of the heap, or one that the text has written: the latter holds whole numbers alone -/
def LstAt (K : PySem.W.Frag) (B : Addr → Prop) (H : Hp) (a : Addr) (vs : List V) : Prop :=
  (H a = some (.lst vs) ∧ ¬ B a) ∨ (((Rd H a (.lst vs) ∧ ¬ B a) ∨
    ∃ (o : Obj) (its : Array Value) (n : Nat), K.lookup a = some o ∧ o.cls = .type "list" ∧ o.dict = none ∧ o.data = .seq its n ∧ its.size ≤ sizeLine ∧ Vals vs its.toList) ∧ ∀ v ∈ vs, ∃ i, v = .int i)
def TupAt (K : PySem.W.Frag) (B : Addr → Prop) (H : Hp) (a : Addr) (vs : List V) : Prop :=
  (Rd H a (.tup vs) ∧ ¬ B a) ∨
    ∃ (o : Obj) (its : Array Value) (n : Nat), K.lookup a = some o ∧ o.cls = .type "tuple" ∧ o.data = .seq its n ∧ its.size ≤ sizeLine ∧ Vals vs its.toList
section
variable {K : PySem.W.Frag} {B B' : Addr → Prop} {H H' : Hp} {a : Addr} {vs : List V} {u : HO}
theorem Rd.mono (h : Rd H a u) (e : Ext B H H') (hb : ¬ B a) (n : NoT u) : Rd H' a u := by
  rcases h with h | ⟨o, h⟩
  · exact .inl (e.keep _ _ hb h n)
  · exact .inr ⟨o, e.keep _ _ hb h trivial⟩
theorem Rd.ne (h : Rd H a u) : H a ≠ none := by
  rcases h with h | ⟨o, h⟩ <;> (rw [h]; intro z; cases z)
theorem LstAt.sq (h : LstAt K B H a vs) : SqL K H a vs := h.elim (fun z => .inl (.inl z.1)) fun z => z.1.elim (fun z => .inl z.1) .inr
theorem TupAt.sq (h : TupAt K B H a vs) : SqT K H a vs := h.elim (fun z => .inl z.1) .inr
theorem LstAt.mono (h : LstAt K B H a vs) (e : Ext B H H') : LstAt K B H' a vs := h.imp (fun z => ⟨e.keep _ _ z.2 z.1 trivial, z.2⟩) fun y => ⟨y.1.imp (fun z => ⟨Rd.mono z.1 e z.2 trivial, z.2⟩) id, y.2⟩
theorem TupAt.mono (h : TupAt K B H a vs) (e : Ext B H H') : TupAt K B H' a vs := h.imp (fun z => ⟨Rd.mono z.1 e z.2 trivial, z.2⟩) id
theorem LstAt.grow (h : LstAt K B H a vs) (g : ∀ b, B' b → B b ∨ H b = none) : LstAt K B' H a vs := h.imp (fun z => ⟨z.1, fun q => (g a q).elim z.2 fun n => Rd.ne (.inl z.1) n⟩) fun y => ⟨y.1.imp (fun z => ⟨z.1, fun q => (g a q).elim z.2 fun n => Rd.ne z.1 n⟩) id, y.2⟩
theorem TupAt.grow (h : TupAt K B H a vs) (g : ∀ b, B' b → B b ∨ H b = none) : TupAt K B' H a vs := h.imp (fun z => ⟨z.1, fun q => (g a q).elim z.2 fun n => Rd.ne z.1 n⟩) id
theorem LstAt.of (h : H a = some (.lst vs)) (hb : ¬ B a) : LstAt K B H a vs := .inl ⟨h, hb⟩
theorem LstAt.ints {ns : List Int} (h : SqL K H a (ns.map V.int)) : LstAt K (fun _ => False) H a (ns.map V.int) := .inr ⟨h.imp (fun z => ⟨z, fun q => q⟩) id, fun v hv => by obtain ⟨i, _, rfl⟩ := List.mem_map.mp hv; exact ⟨i, rfl⟩⟩
theorem TupAt.of (h : H a = some (.tup vs)) (hb : ¬ B a) : TupAt K B H a vs := .inl ⟨.inl h, hb⟩
end
/-- what was made behind the start is written -/
theorem Same.updNew {H H' : Hp} {a : Addr} {u o : HO} (s : Same H H') (n : H a = none) (e : H' a = some u) (hu : OwnK u) : Same H (upd H' a o) := by
  refine ⟨fun b v h nt => ?_, fun b ps h => ?_, fun t => (s.tab t).wr e hu fun b nb _ => upd_ne nb⟩
  · rw [upd_ne (ne_of_none h n)]; exact s.keep b v h nt
  · rw [upd_ne (ne_of_none h n)]; exact s.tbl b ps h
/-! ### keys of dicts -/
mutual
def keyD : D → Option NestedKey
  | .non => some NestedKey.none
  | .bl b => some (.num (if b = true then 1 else 0))
  | .int i => some (.num i)
  | .str s => some (.text ⟨⟨s⟩⟩)
  | .tup xs => (keyDs xs).map .tup
  | .lst _ => none
  | .dct _ => none
  | .opq _ _ => none
def keyDs : List D → Option (List NestedKey)
  | [] => some []
  | x :: xs => match keyD x, keyDs xs with
    | some k, some ks => some (k :: ks)
    | _, _ => none
end
/-- a key that is carried by its value -/
def leafD : D → Option Leaf
  | .non => some .none
  | .bl b => some (.num (if b = true then 1 else 0))
  | .int i => some (.num i)
  | .str s => some (.text ⟨⟨s⟩⟩)
  | _ => none
def isBl : D → Bool
  | .bl _ => true
  | _ => false
/-- no truth among the keys -/
def noBl (kvs : List (D × D)) : Bool := kvs.all fun kv => !isBl kv.1
def notBlV : Value → Bool
  | .bool _ => false
  | _ => true
/-- keys by value; e: none of them is a truth -/
def kindX (P : Program) (w : World) (e : Bool) : KeyKind P w Leaf where
  is k v := (leafKind P w).is k v && (!e || notBlV v)
  hash := (leafKind P w).hash
  inj := fun v a b ha hb => (leafKind P w).inj v a b (Bool.and_eq_true_iff.mp ha).1 (Bool.and_eq_true_iff.mp hb).1
  byValue := fun k v h => (leafKind P w).byValue k v (Bool.and_eq_true_iff.mp h).1
  pyHash := fun hv h => (leafKind P w).pyHash (Bool.and_eq_true_iff.mp hv).1 h
  eqBool := fun hu hv h => (leafKind P w).eqBool (Bool.and_eq_true_iff.mp hu).1 (Bool.and_eq_true_iff.mp hv).1 h
  «strs» := fun k x t v h => by
    have h1 := (leafKind P w).strs k x t v (Bool.and_eq_true_iff.mp h).1
    show ((leafKind P w).is k v && (!e || notBlV v)) = v.isStr x
    rw [h1]
    cases v <;> first | rfl | (show (_ && (!e || true)) = _; rw [Bool.or_true, Bool.and_true])
theorem dict_nil {P : Program} {w : World} {h : Heap} {a : Addr} {e f : Bool} (z : h.DictOf (kindX P w e) a []) : h.DictOf (kindX P w f) a [] := by
  obtain ⟨o, es, ep, h1, h2, h3, h4, h5, h6⟩ := z
  have e0 : es.toList = [] := by
    cases q : es.toList with
    | nil => rfl
    | cons x l => rw [q] at h5; cases h5
  have e1 : es = #[] := Array.toList_eq_nil_iff.mp e0
  subst e1
  exact ⟨o, #[], ep, h1, h2, h3, fun x hx => by simp at hx, .nil, List.nodup_nil⟩
mutual
/-- the value v stands for the data d; B: the addresses that it does not lean on -/
inductive Rep (c : Cfg) (B : Addr → Prop) (H : Hp) : D → V → Prop
  | non : Rep c B H .non .non
  | bl (b : Bool) : Rep c B H (.bl b) (.bl b)
  | int (i : Int) : Rep c B H (.int i) (.int i)
  | str (s : List Nat) : Rep c B H (.str s) (.str ⟨⟨s⟩⟩)
  | tup {a : Addr} {vs : List V} {ds : List D} : TupAt c.K B H a vs → Reps c B H ds vs → Rep c B H (.tup ds) (.ref a)
  | lst {a : Addr} {vs : List V} {ds : List D} : LstAt c.K B H a vs → Reps c B H ds vs → Rep c B H (.lst ds) (.ref a)
  | dctK {a : Addr} {us : List (Leaf × Value)} {kvs : List (D × D)} : H a = some (.ext fun h => us.length ≤ sizeLine ∧ (a == sysModules) = false ∧ h.DictOf (kindX c.P c.w (noBl kvs)) a us) → ¬ B a → RepK c B H kvs us → Rep c B H (.dct kvs) (.ref a)
  | dctT {a : Addr} {us : List (NestedKey × Addr × Value)} {kvs : List (D × D)} :
      H a = some (.ext fun h => us.length ≤ sizeLine ∧ (a == sysModules) = false ∧ ∃ o es ep, h.get? a = some o ∧ o.ExactDict ∧ o.data = .dict es ep ∧ es.toList = us.map (entryOfKey (nestedKind c.P c.w)) ∧ (us.map (·.1)).Nodup) → ¬ B a → RepT c B H kvs us → Rep c B H (.dct kvs) (.ref a)
  | opq {a : Addr} {n : Nat} {vs : List V} {ds : List D} : c.op B H n vs a → Reps c B H ds vs → Rep c B H (.opq n ds) (.ref a)
inductive Reps (c : Cfg) (B : Addr → Prop) (H : Hp) : List D → List V → Prop
  | nil : Reps c B H [] []
  | cons {d : D} {v : V} {ds : List D} {vs : List V} : Rep c B H d v → Reps c B H ds vs → Reps c B H (d :: ds) (v :: vs)
/-- entries whose keys are carried by value -/
inductive RepK (c : Cfg) (B : Addr → Prop) (H : Hp) : List (D × D) → List (Leaf × Value) → Prop
  | nil : RepK c B H [] []
  | cons {k d : D} {v : V} {l : Leaf} {u : Value} {kvs : List (D × D)} {us : List (Leaf × Value)} : leafD k = some l → Rep c B H d v → RelV v u → RepK c B H kvs us → RepK c B H ((k, d) :: kvs) ((l, u) :: us)
/-- entries whose keys are tuples -/
inductive RepT (c : Cfg) (B : Addr → Prop) (H : Hp) : List (D × D) → List (NestedKey × Addr × Value) → Prop
  | nil : RepT c B H [] []
  | cons {k : List D} {d : D} {v : V} {l : NestedKey} {q : Addr} {u : Value} {kvs : List (D × D)} {us : List (NestedKey × Addr × Value)} : keyD (.tup k) = some l → l.depth ≤ 8 → Rep c B H (.tup k) (.ref q) → Rep c B H d v → RelV v u → RepT c B H kvs us → RepT c B H ((.tup k, d) :: kvs) ((l, q, u) :: us)
end
section
variable {c : Cfg} {B B' : Addr → Prop} {H H' : Hp}
mutual
theorem Rep.mono (e : Ext B H H') : ∀ {d : D} {v : V}, Rep c B H d v → Rep c B H' d v
  | _, _, .non => .non
  | _, _, .bl b => .bl b
  | _, _, .int i => .int i
  | _, _, .str s => .str s
  | _, _, .tup h r => .tup (h.mono e) (Reps.mono e r)
  | _, _, .lst h r => .lst (h.mono e) (Reps.mono e r)
  | _, _, .dctK h b r => .dctK (e.keep _ _ b h trivial) b (RepK.mono e r)
  | _, _, .dctT h b r => .dctT (e.keep _ _ b h trivial) b (RepT.mono e r)
  | _, _, .opq h r => .opq (c.op_mono h e.keep e.frz) (Reps.mono e r)
theorem Reps.mono (e : Ext B H H') : ∀ {ds : List D} {vs : List V}, Reps c B H ds vs → Reps c B H' ds vs
  | _, _, .nil => .nil
  | _, _, .cons h t => .cons (Rep.mono e h) (Reps.mono e t)
theorem RepK.mono (e : Ext B H H') : ∀ {kvs : List (D × D)} {us : List (Leaf × Value)}, RepK c B H kvs us → RepK c B H' kvs us
  | _, _, .nil => .nil
  | _, _, .cons k h r t => .cons k (Rep.mono e h) r (RepK.mono e t)
theorem RepT.mono (e : Ext B H H') : ∀ {kvs : List (D × D)} {us : List (NestedKey × Addr × Value)}, RepT c B H kvs us → RepT c B H' kvs us
  | _, _, .nil => .nil
  | _, _, .cons k dp kq h r t => .cons k dp (Rep.mono e kq) (Rep.mono e h) r (RepT.mono e t)
end
mutual
theorem Rep.grow (g : ∀ b, B' b → B b ∨ H b = none) : ∀ {d : D} {v : V}, Rep c B H d v → Rep c B' H d v
  | _, _, .non => .non
  | _, _, .bl b => .bl b
  | _, _, .int i => .int i
  | _, _, .str s => .str s
  | _, _, .tup h r => .tup (h.grow g) (Reps.grow g r)
  | _, _, .lst h r => .lst (h.grow g) (Reps.grow g r)
  | _, _, .dctK h b r => .dctK h (fun q => (g _ q).elim b fun n => by rw [h] at n; cases n) (RepK.grow g r)
  | _, _, .dctT h b r => .dctT h (fun q => (g _ q).elim b fun n => by rw [h] at n; cases n) (RepT.grow g r)
  | _, _, .opq h r => .opq (c.op_grow h g) (Reps.grow g r)
theorem Reps.grow (g : ∀ b, B' b → B b ∨ H b = none) : ∀ {ds : List D} {vs : List V}, Reps c B H ds vs → Reps c B' H ds vs
  | _, _, .nil => .nil
  | _, _, .cons h t => .cons (Rep.grow g h) (Reps.grow g t)
theorem RepK.grow (g : ∀ b, B' b → B b ∨ H b = none) : ∀ {kvs : List (D × D)} {us : List (Leaf × Value)}, RepK c B H kvs us → RepK c B' H kvs us
  | _, _, .nil => .nil
  | _, _, .cons k h r t => .cons k (Rep.grow g h) r (RepK.grow g t)
theorem RepT.grow (g : ∀ b, B' b → B b ∨ H b = none) : ∀ {kvs : List (D × D)} {us : List (NestedKey × Addr × Value)}, RepT c B H kvs us → RepT c B' H kvs us
  | _, _, .nil => .nil
  | _, _, .cons k dp kq h r t => .cons k dp (Rep.grow g kq) (Rep.grow g h) r (RepT.grow g t)
end
theorem Rep.less (g : ∀ b, B' b → B b) {d : D} {v : V} (h : Rep c B H d v) : Rep c B' H d v := h.grow fun b q => .inl (g b q)
theorem Reps.less (g : ∀ b, B' b → B b) {d : List D} {v : List V} (h : Reps c B H d v) : Reps c B' H d v := h.grow fun b q => .inl (g b q)
theorem Reps.length : ∀ {ds : List D} {vs : List V}, Reps c B H ds vs → ds.length = vs.length
  | _, _, .nil => rfl
  | _, _, .cons _ t => by rw [List.length_cons, List.length_cons, Reps.length t]
theorem Reps.get : ∀ {ds : List D} {vs : List V} {i : Nat} {d : D}, Reps c B H ds vs → ds[i]? = some d → ∃ v, vs[i]? = some v ∧ Rep c B H d v
  | _, _, _, _, .nil, e => by simp at e
  | _, _, 0, _, .cons r _, e => by simp at e; subst e; exact ⟨_, rfl, r⟩
  | _, _, i + 1, d, .cons _ t, e => by
    obtain ⟨v, h1, h2⟩ := Reps.get (i := i) (d := d) t (by simpa using e)
    exact ⟨v, by simpa using h1, h2⟩
theorem Reps.getV : ∀ {ds : List D} {vs : List V} {i : Nat} {v : V}, Reps c B H ds vs → vs[i]? = some v → ∃ d, ds[i]? = some d ∧ Rep c B H d v
  | _, _, _, _, .nil, e => by simp at e
  | _, _, 0, _, .cons r _, e => by simp at e; subst e; exact ⟨_, rfl, r⟩
  | _, _, i + 1, d, .cons _ t, e => by
    obtain ⟨v, h1, h2⟩ := Reps.getV (i := i) (v := d) t (by simpa using e)
    exact ⟨v, by simpa using h1, h2⟩
theorem Reps.app : ∀ {ds es : List D} {vs ws : List V}, Reps c B H ds vs → Reps c B H es ws → Reps c B H (ds ++ es) (vs ++ ws)
  | _, _, _, _, .nil, s => s
  | _, _, _, _, .cons r t, s => .cons r (Reps.app t s)
theorem Reps.set {d : D} {v : V} (r : Rep c B H d v) : ∀ {ds : List D} {vs : List V} (i : Nat), Reps c B H ds vs → Reps c B H (ds.set i d) (vs.set i v)
  | _, _, _, .nil => .nil
  | _, _, 0, .cons _ t => .cons r t
  | _, _, i + 1, .cons q t => .cons q (Reps.set r i t)
theorem Reps.take : ∀ {ds : List D} {vs : List V} (n : Nat), Reps c B H ds vs → Reps c B H (ds.take n) (vs.take n)
  | _, _, 0, _ => .nil
  | _, _, _ + 1, .nil => .nil
  | _, _, n + 1, .cons r t => .cons r (Reps.take n t)
theorem Reps.drop : ∀ {ds : List D} {vs : List V} (n : Nat), Reps c B H ds vs → Reps c B H (ds.drop n) (vs.drop n)
  | _, _, 0, r => r
  | _, _, _ + 1, .nil => .nil
  | _, _, n + 1, .cons _ t => Reps.drop n t
theorem Reps.dropLast : ∀ {ds : List D} {vs : List V}, Reps c B H ds vs → Reps c B H ds.dropLast vs.dropLast
  | _, _, .nil => .nil
  | _, _, .cons _ .nil => .nil
  | _, _, .cons r (.cons r2 t) => .cons r (Reps.dropLast (.cons r2 t))
theorem Reps.rev : ∀ {ds : List D} {vs : List V}, Reps c B H ds vs → Reps c B H ds.reverse vs.reverse
  | _, _, .nil => .nil
  | _, _, .cons r t => by rw [List.reverse_cons, List.reverse_cons]; exact Reps.app (Reps.rev t) (.cons r .nil)
theorem Reps.rep {ds : List D} {vs : List V} (h : Reps c B H ds vs) : ∀ k : Nat, Reps c B H (List.replicate k ds).flatten (List.replicate k vs).flatten
  | 0 => .nil
  | k + 1 => by
    rw [List.replicate_succ, List.replicate_succ, List.flatten_cons, List.flatten_cons]
    exact Reps.app h (Reps.rep h k)
theorem Reps.ints : ∀ {ns : List Int}, Reps c B H (ns.map D.int) (ns.map V.int)
  | [] => .nil
  | n :: ns => .cons (.int n) Reps.ints
end
end RA
/-! RA2: a small language of expressions and statements over plain data, and what they come to. -/
namespace RA
open PySem PySem.Spec PyProof.Rows L2
/-- val: may be kept; tmp: looked at, of an own list or dict; own: a new list or dict that nobody else has -/
inductive Fl where
  | val | tmp | own
  deriving DecidableEq
inductive Rs (α : Type) where
  | no | ok (a : α) | ex (c : Nat) (fs : List D)
def Rs.bind {α β : Type} : Rs α → (α → Rs β) → Rs β
  | .no, _ => .no
  | .ok a, f => f a
  | .ex c fs, _ => .ex c fs
@[simp] theorem Rs.bind_no {α β : Type} (f : α → Rs β) : (Rs.no : Rs α).bind f = .no := (rfl)
@[simp] theorem Rs.bind_ok {α β : Type} (a : α) (f : α → Rs β) : (Rs.ok a).bind f = f a := (rfl)
@[simp] theorem Rs.bind_ex {α β : Type} (c : Nat) (fs : List D) (f : α → Rs β) : (Rs.ex c fs : Rs α).bind f = .ex c fs := (rfl)
/-- an error there is none of ours -/
def Rs.quiet {α : Type} : Rs α → Rs α
  | .ex _ _ => .no
  | r => r
abbrev Ev := List (Option (Bool × D))
/-- what a def hands back: whether it is a new list or dict of its own, and the data -/
abbrev FT := Nat → List D → Rs (Bool × D)
inductive Bop where
  | add | sub | mul | fdiv | mod | pow | shl | shr | band | bor
  deriving DecidableEq
inductive Cop where
  | eq | ne | lt | le | gt | ge | isn | isnt | mem | nmem
  deriving DecidableEq
/-- built-in functions and classes, called -/
inductive Bf where
  | len | tuple | list | max | min | int | sum | any | all | abs | divmod | isBool | isInt | isStr | isTup | isLst | sortedI
  deriving DecidableEq
/-- methods of built-in kinds -/
inductive Mf where
  | find | join
  deriving DecidableEq
inductive Tg where
  | one (i : Nat) | tup (is : List Nat)
/-- further walks: d.items() -/
inductive WK where
  | itm
  deriving DecidableEq
/-- further expressions, of parts that come first: isinstance(x, y), y an own class; x.f of an error or own object -/
inductive XT where
  | isc (y : Str) (ys ns : List Nat)
  | fld (k j : Nat) (f : Str)
  | rgl | rgt | dvl | dkl | cat | jrv
  /-- f(..), f a local that holds a function made within a def -/
  | cal (ks : List Nat)
  /-- C(), C an own class without __init__ -/
  | mk (n : Nat) (x : Str)
  /-- o.m(..), by o's class -/
  | mth (m : Str) (ks : List (Nat × Nat))
  /-- list(zip(a, b, c)); t + u of tuples; s.startswith(t), s.endswith(t), s.count(t) -/
  | zl3 | ctu | stw | enw | cot
  /-- list * number -/
  | lmu
  /-- a walk -/
  | wk (w : WK)
  deriving DecidableEq
/-- further statements, of parts that come first -/
inductive YT where
  | rsx (c : Nat) (x : Str) (n : Nat)
  | clr (i : Nat)
  deriving DecidableEq
/-- what an except clause does: N[j] = the error, N[j] = d -/
inductive Hd where
  | as (i j : Nat) | cst (j : Nat) (d : D)
mutual
inductive IE where
  | v (i : Nat) | pk (i : Nat) | pv (i : Nat) | k (d : D) | gl (n : Nat)
  | b (op : Bop) (x y : IE) | neg (x : IE) | cmp (op : Cop) (x y : IE)
  | and_ (x y : IE) | or_ (x y : IE) | not_ (x : IE) | ife (t x y : IE)
  | tup (as : IEs) | lst (as : IEs) | dct (ks vs : IEs)
  | ix (x i : IE) | sl (x lo hi : IE) | out | rv (x : IE) | lset (x : IE) | lix (x y : IE)
  | bi (f : Bf) (as : IEs) | me (m : Mf) (o : IE) (as : IEs) | call (n : Nat) (as : IEs)
  | comp (tg : Tg) (it : II) (t : IE) (e : IE)
  | xt (t : XT) (as : IEs)
inductive IEs where
  | nil | cons (x : IE) (as : IEs)
/-- what is walked -/
inductive II where
  | ex (x : IE) | rng1 (x : IE) | rng2 (x y : IE) | zip2 (x y : IE) | rev (x : IE) | xi (w : WK) (as : IEs)
end
/-! ### operations on data -/
def mulOk (i j : Int) : Bool := decide ((-(2 ^ 64) < i ∧ i < 2 ^ 64) ∨ (-(2 ^ 64) < j ∧ j < 2 ^ 64))
def powOk (i j : Int) : Bool := decide (0 ≤ j ∧ j ≤ 1000000 ∧ i.natAbs < 2 ^ 64)
def binD : Bop → D → D → Rs (Fl × D)
  | .add, .int i, .int j => .ok (.val, .int (i + j))
  | .add, .str s, .str t => if s.length + t.length ≤ sizeLine then .ok (.val, .str (s ++ t)) else .no
  | .sub, .int i, .int j => .ok (.val, .int (i - j))
  | .mul, .int i, .int j => if mulOk i j = true then .ok (.val, .int (i * j)) else .no
  | .mul, .str s, .int j => if 0 ≤ j ∧ s.length * j.toNat ≤ 1000000 ∧ j ≤ 1000000 then .ok (.val, .str (List.replicate j.toNat s).flatten) else .no
  | .fdiv, .int i, .int j => if 0 < j ∧ j < 1073741824 then .ok (.val, .int (i / j)) else .no
  | .mod, .int i, .int j => if 0 < j then .ok (.val, .int (i % j)) else .no
  | .pow, .int i, .int j => if powOk i j = true then .ok (.val, .int (i ^ j.toNat)) else .no
  | .shl, .int i, .int j => if powOk i j = true then .ok (.val, .int (i * 2 ^ j.toNat)) else .no
  | .shr, .int i, .int j => if 0 ≤ j then .ok (.val, .int (i / 2 ^ j.toNat)) else .no
  | .band, .int i, .int j => .ok (.val, .int (Builtin.bitAnd i j))
  | .bor, .int i, .int j => .ok (.val, .int (Builtin.bitOr i j))
  | _, _, _ => .no
mutual
def toP : D → PyData
  | .non => .none
  | .bl b => .bool b
  | .int i => .int i
  | .str s => .str ⟨⟨s⟩⟩
  | .tup xs => .tuple (toPs xs)
  | .lst xs => .list (toPs xs)
  | .dct _ => .dict []
  | .opq _ _ => .dict []
def toPs : List D → List PyData
  | [] => []
  | x :: xs => toP x :: toPs xs
end
/-- kinds whose == needs no look -/
def scalD : D → D → Bool
  | .non, .non => true | .non, .int _ => true | .int _, .non => true | .non, .bl _ => true | .bl _, .non => true | .non, .str _ => true | .str _, .non => true
  | .int _, .int _ => true | .bl _, .bl _ => true | .str _, .str _ => true
  | .int _, .str _ => true | .str _, .int _ => true | .bl _, .str _ => true | .str _, .bl _ => true
  | _, _ => false
def eqS : D → D → Bool
  | .non, .non => true
  | .int i, .int j => decide (i = j)
  | .bl i, .bl j => decide (i = j)
  | .str i, .str j => decide (i = j)
  | _, _ => false
def eqD (x y : D) : Rs Bool :=
  if scalD x y = true then .ok (eqS x y)
  else if (SeqAt.shaped (toP x) && SeqAt.shaped (toP y)) = true then .ok (PyData.eqv (toP x) (toP y))
  else .no
def flatD : D → Bool
  | .non => true | .bl _ => true | .int _ => true | .str _ => true | _ => false
/-- == of flat data -/
def eqF : D → D → Bool
  | .non, .non => true
  | .bl a, .bl b => a == b
  | .bl a, .int b => (if a then 1 else 0) == b
  | .int a, .bl b => a == (if b then 1 else 0)
  | .int a, .int b => a == b
  | .str a, .str b => a == b
  | _, _ => false
/-! dicts: the pairs in their order -/
def keyEq (x y : D) : Bool := decide (keyD x = keyD y)
def dGet (kvs : List (D × D)) (k : D) : Option D := (kvs.find? fun kv => keyEq kv.1 k).map (·.2)
def dPut (kvs : List (D × D)) (k v : D) : List (D × D) :=
  if (kvs.any fun kv => keyEq kv.1 k) = true then kvs.map (fun kv => if keyEq kv.1 k = true then (kv.1, v) else kv) else kvs ++ [(k, v)]
/-- whether k may be asked of a dict with these keys: all by value, or all tuples -/
def leafy (k : D) : Bool := (leafD k).isSome
def tupKey (k : D) : Bool := match k with
  | .tup _ => (match keyD k with | some l => decide (l.depth ≤ 8) | none => false)
  | _ => false
def keysL (kvs : List (D × D)) (k : D) : Bool := leafy k && kvs.all fun kv => leafy kv.1 && (isBl kv.1 == isBl k)
def keysT (kvs : List (D × D)) (k : D) : Bool := tupKey k && kvs.all fun kv => tupKey kv.1
def keysOk (kvs : List (D × D)) (k : D) : Bool := keysL kvs k || keysT kvs k
def memD (x : D) : D → Rs Bool
  | .str s => (match x with | .str [ch] => .ok (decide (ch ∈ s)) | _ => .no)
  | .lst ys => if (flatD x && ys.all flatD) = true then .ok (ys.any fun y => eqF y x)
    else if (SeqAt.shaped (toP x) && SeqAt.shaped (toP (.lst ys))) = true then .ok ((toPs ys).any fun y => PyData.eqv y (toP x)) else .no
  | .tup ys => if (flatD x && ys.all flatD) = true then .ok (ys.any fun y => eqF y x) else .no
  | .dct kvs => if keysOk kvs x = true then .ok (dGet kvs x).isSome else .no
  | _ => .no
def isNon : D → Bool
  | .non => true
  | _ => false
def cmpD : Cop → D → D → Rs Bool
  | .eq, x, y => eqD x y
  | .ne, x, y => (eqD x y).bind fun b => .ok (!b)
  | .lt, .int i, .int j => .ok (decide (i < j))
  | .lt, .str i, .str j => .ok (decide (i < j))
  | .le, .int i, .int j => .ok (decide (i ≤ j))
  | .gt, .int i, .int j => .ok (decide (j < i))
  | .gt, .str i, .str j => .ok (decide (j < i))
  | .ge, .int i, .int j => .ok (decide (j ≤ i))
  | .isn, x, .non => .ok (isNon x)
  | .isnt, x, .non => .ok (!isNon x)
  | .mem, x, y => memD x y
  | .nmem, x, y => (memD x y).bind fun b => .ok (!b)
  | _, _, _ => .no
def ixD : D → D → Rs D
  | .lst xs, .int i => (match atI xs i with | some d => .ok d | none => .no)
  | .tup xs, .int i => (match atI xs i with | some d => .ok d | none => .no)
  | .str s, .int i => if s.length ≤ sizeLine then (match atI s i with | some ch => .ok (.str [ch]) | none => .no) else .no
  | .dct kvs, k => if keysOk kvs k = true then (match dGet kvs k with | some d => .ok d | none => .no) else .no
  | _, _ => .no
/-- the bounds of a slice of n items -/
def cutD {α : Type} (xs : List α) (lo hi : Option Int) : List α := (xs.drop (HT.sIx xs.length 0 lo)).take (HT.sIx xs.length xs.length hi - HT.sIx xs.length 0 lo)
/-- a bound of a slice, or none there -/
def prt (out : Bool) (r : Rs (Fl × D)) : Rs (Option Int) := r.bind fun a => match a.2 with
  | .int i => .ok (some i)
  | .non => if out = true then .ok none else .no
  | _ => .no
def isOut : IE → Bool
  | .out => true
  | _ => false
def slD (x : D) (lo hi : Option Int) : Rs (Fl × D) := match x with
  | .lst xs => .ok (.own, .lst (cutD xs lo hi))
  | .str s => if s.length ≤ sizeLine then .ok (.val, .str (cutD s lo hi)) else .no
  | .tup xs => if HT.sIx xs.length 0 lo = 0 ∧ HT.sIx xs.length xs.length hi = xs.length then .no else .ok (.val, .tup (cutD xs lo hi))
  | _ => .no
/-- x[::-1] -/
def rvD : D → Rs (Fl × D)
  | .lst xs => .ok (.own, .lst xs.reverse)
  | .str s => if s.length ≤ sizeLine then .ok (.val, .str s.reverse) else .no
  | _ => .no
def intsOf : List D → Option (List Int)
  | [] => some []
  | .int i :: r => (intsOf r).map (i :: ·)
  | _ :: _ => none
def blsOf : List D → Option (List Bool)
  | [] => some []
  | .bl i :: r => (blsOf r).map (i :: ·)
  | _ :: _ => none
def strsOf : List D → Option (List (List Nat))
  | [] => some []
  | .str i :: r => (strsOf r).map (i :: ·)
  | _ :: _ => none
def maxL : List Int → Option Int
  | [] => none
  | x :: r => some (r.foldl (fun a b => if a < b then b else a) x)
def minL : List Int → Option Int
  | [] => none
  | x :: r => some (r.foldl (fun a b => if b < a then b else a) x)
def biD : Bf → List D → Rs (Fl × D)
  | .len, [.str s] => if s.length ≤ sizeLine then .ok (.val, .int s.length) else .no
  | .len, [.lst xs] => .ok (.val, .int xs.length)
  | .len, [.tup xs] => .ok (.val, .int xs.length)
  | .len, [.dct kvs] => if ((kvs.all fun kv => leafy kv.1) || kvs.all fun kv => tupKey kv.1) = true then .ok (.val, .int kvs.length) else .no
  | .tuple, [.lst xs] => .ok (.val, .tup xs)
  | .list, [.lst xs] => .ok (.own, .lst xs)
  | .list, [.tup xs] => .ok (.own, .lst xs)
  | .max, [.lst xs] => (match intsOf xs with | some ns => (match maxL ns with | some m => .ok (.val, .int m) | none => .no) | none => .no)
  | .min, [.lst xs] => (match intsOf xs with | some ns => (match minL ns with | some m => .ok (.val, .int m) | none => .no) | none => .no)
  | .max, [.int i, .int j] => .ok (.val, .int (if j > i then j else i))
  | .min, [.int i, .int j] => .ok (.val, .int (if j < i then j else i))
  | .int, [.int i] => .ok (.val, .int i)
  | .int, [.bl k] => .ok (.val, .int (if k then 1 else 0))
  | .sum, [.lst xs] => (match intsOf xs with | some ns => .ok (.val, .int ns.sum) | none => .no)
  | .any, [.lst xs] => (match blsOf xs with | some bs => .ok (.val, .bl (bs.any id)) | none => .no)
  | .all, [.lst xs] => (match blsOf xs with | some bs => .ok (.val, .bl (bs.all id)) | none => .no)
  | .abs, [.int i] => .ok (.val, .int (if i < 0 then -i else i))
  | .divmod, [.int i, .int j] => if 0 < j ∧ j < 1073741824 then .ok (.val, .tup [.int (i / j), .int (i % j)]) else .no
  | .isBool, [x] => (match x with | .opq _ _ => .no | .dct _ => .no | .bl _ => .ok (.val, .bl true) | _ => .ok (.val, .bl false))
  | .isInt, [x] => (match x with | .opq _ _ => .no | .dct _ => .no | .bl _ => .ok (.val, .bl true) | .int _ => .ok (.val, .bl true) | _ => .ok (.val, .bl false))
  | .isStr, [x] => (match x with | .opq _ _ => .no | .dct _ => .no | .str _ => .ok (.val, .bl true) | _ => .ok (.val, .bl false))
  | .isTup, [x] => (match x with | .opq _ _ => .no | .dct _ => .no | .tup _ => .ok (.val, .bl true) | _ => .ok (.val, .bl false))
  | .isLst, [x] => (match x with | .opq _ _ => .no | .dct _ => .no | .lst _ => .ok (.val, .bl true) | _ => .ok (.val, .bl false))
  | _, _ => .no
/-- len(set(x)), unlike whole numbers -/
def lsetD : D → Rs (Fl × D)
  | .lst xs => (match intsOf xs with | some ns => if ns.Nodup ∧ ns.length ≤ 4000 then .ok (.val, .int ns.length) else .no | none => .no)
  | _ => .no
/-- where a sign first stands -/
def findL (s : List Nat) (ch : Nat) : Int := match s.findIdx? (· == ch) with | some i => i | none => -1
def joinD : List (List Nat) → List Nat
  | [] => []
  | x :: r => x ++ joinD r
def sumLen : List (List Nat) → Nat
  | [] => 0
  | x :: r => x.length + sumLen r
def meD : Mf → D → List D → Rs (Fl × D)
  | .find, .str s, [.str [ch]] => .ok (.val, .int (findL s ch))
  | .join, .str [], [.lst xs] => (match strsOf xs with | some ss => if sumLen ss ≤ 1000000 then .ok (.val, .str (joinD ss)) else .no | none => .no)
  | _, _, _ => .no
def recvOk : D → Bool
  | .str _ => true
  | _ => false
def keepOk (ds : List (Fl × D)) : Bool := ds.all fun x => decide (x.1 ≠ .tmp)
def setAll : List Nat → List D → Ev → Ev
  | i :: is, d :: ds, G => setAll is ds (G.set i (some (false, d)))
  | _, _, G => G
def bindT : Tg → D → Ev → Option Ev
  | .one i, d, G => some (G.set i (some (false, d)))
  | .tup is, .tup ds, G => if is.length = ds.length then some (setAll is ds G) else none
  | _, _, _ => none
def forget : List Nat → Ev → Ev
  | [], G => G
  | i :: is, G => (forget is G).set i none
def tgSlots : Tg → List Nat
  | .one i => [i]
  | .tup is => is
mutual
/-- no list, no dict, no own kind anywhere -/
def noL : D → Bool
  | .lst _ => false | .dct _ => false | .opq _ _ => false
  | .tup ds => noLs ds
  | _ => true
def noLs : List D → Bool
  | [] => true
  | d :: ds => noL d && noLs ds
end
/-- what may come back from a call to which own lists or dicts were lent: it does not lean on them -/
def lendOk : Bool × D → Bool
  | (true, .dct kvs) => kvs.all fun kv => noL kv.1 && noL kv.2
  | (true, .lst ds) => noLs ds
  | (true, _) => false
  | (false, d) => noL d
/-- no own list or dict stands there -/
def freeAt (G : Ev) (i : Nat) : Bool := match G[i]? with
  | some (some (true, _)) => false
  | _ => true
def compGo (t : Ev → Rs Bool) (e : Ev → Rs (Fl × D)) (tg : Tg) (G : Ev) : List D → Rs (List D)
  | [] => .ok []
  | d :: ds => match bindT tg d G with
    | none => .no
    | some G' => (t G').bind fun b => if b = true then (e G').bind fun r => (if r.1 = .tmp then .no else (compGo t e tg G ds).bind fun rs => .ok (r.2 :: rs)) else compGo t e tg G ds
def rangeD (lo hi : Int) : List D := (List.range (hi - lo).toNat).map fun (i : Nat) => D.int (lo + (i : Int))
def zipD : List D → List D → List D
  | x :: xs, y :: ys => .tup [x, y] :: zipD xs ys
  | _, _ => []
/-- the items of what may be walked -/
def itemsD : D → Option (List D)
  | .lst xs => some xs
  | .tup xs => some xs
  | .str s => some (s.map fun ch => .str [ch])
  | _ => none
def smallI (i : Int) : Bool := decide (-(2 ^ 62) ≤ i ∧ i < 2 ^ 62)
def asB (r : Rs (Fl × D)) : Rs Bool := r.bind fun x => match x.2 with | .bl b => .ok b | _ => .no
def putAll : List (Fl × D) → List (Fl × D) → List (D × D) → Option (List (D × D))
  | [], [], acc => some acc
  | k :: ks, v :: vs, acc => if (keysOk acc k.2 && decide (v.1 ≠ .tmp)) = true then putAll ks vs (dPut acc k.2 v.2) else none
  | _, _, _ => none
/-- x.index(y) of a list -/
def lixD (ys : List D) (b : D) : Rs (Fl × D) := if (flatD b && ys.all flatD) = true then (match ys.findIdx? fun y => eqF y b with | some i => .ok (.val, .int (i : Nat)) | none => .no)
  else if (SeqAt.shaped (toP (.lst ys)) && SeqAt.shaped (toP b)) = true then (match (toPs ys).findIdx? fun y => PyData.eqv y (toP b) with | some i => .ok (.val, .int (i : Nat)) | none => .no) else .no
mutual
/-- no function that leans on cells anywhere -/
def noCel : D → Bool
  | .tup ds => noCels ds
  | .lst ds => noCels ds
  | .dct kvs => noCelK kvs
  | .opq n ds => decide (n < 1000) && noCels ds
  | _ => true
def noCels : List D → Bool
  | [] => true
  | d :: ds => noCel d && noCels ds
def noCelK : List (D × D) → Bool
  | [] => true
  | (k, d) :: r => noCel k && noCel d && noCelK r
end
/-- a function's promise asks for that -/
def cellF (m : List D → Rs (Bool × D)) : List D → Rs (Bool × D) := fun ds => if noCels ds = true then m ds else .no
def zip3D : List D → List D → List D → List D
  | x :: xs, y :: ys, z :: zs => .tup [x, y, z] :: zip3D xs ys zs
  | _, _, _ => []
/-- what a further walk goes through -/
def wkD : WK → List (Fl × D) → Rs (List D)
  | .itm, [a] => (match a.2 with
    | .dct kvs => if a.1 = .own ∧ (kvs.all fun kv => leafy kv.1 && !isBl kv.1) = true then .ok (kvs.map fun kv => .tup [kv.1, kv.2]) else .no
    | _ => .no)
  | _, _ => .no
/-- what a further expression comes to -/
def xtD (F : FT) : XT → List (Fl × D) → Rs (Fl × D)
  | .isc _ ys ns, [a] => (match a.2 with
    | .non => .ok (.val, .bl false)
    | .opq k _ => if ys.contains k = true then .ok (.val, .bl true) else if ns.contains k = true then .ok (.val, .bl false) else .no
    | _ => .no)
  | .fld k j _, [a] => (match a.2 with
    | .opq n cs => if n = k then (match cs[j]? with | some d => .ok (.val, d) | none => .no) else .no
    | _ => .no)
  | .rgl, [a] => (match a.2 with
    | .int j => if 0 ≤ j ∧ j ≤ 16777216 then .ok (.own, .lst (rangeD 0 j)) else .no
    | _ => .no)
  | .rgt, [a] => (match a.2 with
    | .int j => if 0 ≤ j ∧ j ≤ 16777216 then .ok (.val, .tup (rangeD 0 j)) else .no
    | _ => .no)
  | .cat, [a, b] => (match a.2, b.2 with
    | .lst xs, .lst ys => if xs.length + ys.length ≤ 16777216 then .ok (.own, .lst (xs ++ ys)) else .no
    | _, _ => .no)
  | .jrv, [b] => (match b.2 with
    | .str s => if s.length ≤ 16777216 then .ok (.val, .str s.reverse) else .no
    | _ => .no)
  | .dvl, [a] => (match a.2 with
    | .dct kvs => if (kvs.all fun kv => tupKey kv.1) = true then .ok (.own, .lst (kvs.map (·.2))) else .no
    | _ => .no)
  | .dkl, [a] => (match a.2 with
    | .dct kvs => if (kvs.all fun kv => tupKey kv.1) = true then .ok (.own, .lst (kvs.map (·.1))) else .no
    | _ => .no)
  | .mk n _, [] => .ok (.val, .opq n [])
  | .mth _ ks, a :: as => (match a.2 with
    | .opq n cs => (match ks.lookup n with
      | some f => if a.1 = .val ∧ keepOk as = true then (F f (.opq n cs :: as.map (·.2))).bind fun r => .ok (if r.1 = true then .own else .val, r.2) else .no
      | none => .no)
    | _ => .no)
  | .zl3, [a, b, e] => (match a.2, b.2, e.2 with
    | .lst xs, .lst ys, .lst zs => if xs.length ≤ 16777216 then .ok (.own, .lst (zip3D xs ys zs)) else .no
    | _, _, _ => .no)
  | .ctu, [a, b] => (match a.2, b.2 with
    | .tup xs, .tup ys => if xs.length + ys.length ≤ 16777216 then .ok (.val, .tup (xs ++ ys)) else .no
    | _, _ => .no)
  | .stw, [a, b] => (match a.2, b.2 with
    | .str x, .str y => .ok (.val, .bl (y.isPrefixOf x))
    | _, _ => .no)
  | .enw, [a, b] => (match a.2, b.2 with
    | .str x, .str y => .ok (.val, .bl (y.isSuffixOf x))
    | _, _ => .no)
  | .cot, [a, b] => (match a.2, b.2 with
    | .str x, .str [ch] => .ok (.val, .int (x.count ch : Nat))
    | _, _ => .no)
  | .lmu, [a, b] => (match a.2, b.2 with
    | .lst xs, .int j => if a.1 = .own ∧ 0 ≤ j ∧ xs.length * j.toNat ≤ 16777216 ∧ j ≤ 16777216 then .ok (.own, .lst (List.replicate j.toNat xs).flatten) else .no
    | _, _ => .no)
  | .cal ks, a :: as => (match a.2 with
    | .opq k cs => if a.1 = .val ∧ keepOk as = true ∧ ks.contains k = true then (cellF (F k) (as.map (·.2) ++ cs)).bind fun r => .ok (if r.1 = true then .own else .val, r.2) else .no
    | _ => .no)
  | _, _ => .no
mutual
/-- what an expression comes to -/
def ev (F : FT) : IE → Ev → Rs (Fl × D)
  | .v i, G => (match G[i]? with | some (some (false, d)) => .ok (.val, d) | _ => .no)
  | .pk i, G => (match G[i]? with | some (some (true, d)) => .ok (.tmp, d) | _ => .no)
  | .pv i, G => (match G[i]? with | some (some (b, d)) => .ok (if b = true then .tmp else .val, d) | _ => .no)
  | .k d, _ => .ok (.val, d)
  | .gl n, _ => (match F n [] with | .ok (_, d) => .ok (.val, d) | _ => .no)
  | .out, _ => .ok (.val, .non)
  | .b op x y, G => (ev F x G).bind fun a => (ev F y G).bind fun b => binD op a.2 b.2
  | .neg x, G => (ev F x G).bind fun a => (match a.2 with | .int i => .ok (.val, .int (-i)) | _ => .no)
  | .cmp op x y, G => (ev F x G).bind fun a => (ev F y G).bind fun b => (cmpD op a.2 b.2).bind fun r => .ok (.val, .bl r)
  | .and_ x y, G => (asB (ev F x G)).bind fun a => (if a = true then ev F y G else .ok (.val, .bl false))
  | .or_ x y, G => (asB (ev F x G)).bind fun a => (if a = true then .ok (.val, .bl true) else ev F y G)
  | .not_ x, G => (asB (ev F x G)).bind fun a => .ok (.val, .bl (!a))
  | .ife t x y, G => (asB (ev F t G)).bind fun a => (if a = true then ev F x G else ev F y G)
  | .tup as, G => (evs F as G).bind fun ds => (if keepOk ds = true ∧ ds.length ≤ 1000 then .ok (.val, .tup (ds.map (·.2))) else .no)
  | .lst as, G => (evs F as G).bind fun ds => (if keepOk ds = true ∧ ds.length ≤ 1000 then .ok (.own, .lst (ds.map (·.2))) else .no)
  | .dct ks vs, G => (evs F ks G).bind fun ds => (evs F vs G).bind fun es => (match putAll ds es [] with | some kvs => .ok (.own, .dct kvs) | none => .no)
  | .ix x i, G => (ev F x G).bind fun a => (ev F i G).bind fun b => (ixD a.2 b.2).bind fun d => .ok (.val, d)
  | .sl x lo hi, G => (ev F x G).bind fun a => (prt (isOut lo) (ev F lo G)).bind fun l => (prt (isOut hi) (ev F hi G)).bind fun h => slD a.2 l h
  | .rv x, G => (ev F x G).bind fun a => rvD a.2
  | .lset x, G => (ev F x G).bind fun a => lsetD a.2
  | .lix x y, G => (ev F x G).bind fun a => (match a.2 with | .lst ys => (ev F y G).bind fun b => lixD ys b.2 | _ => .no)
  | .bi f as, G => (evs F as G).bind fun ds => biD f (ds.map (·.2))
  | .me m o as, G => (ev F o G).bind fun a => (if recvOk a.2 = true then (evs F as G).bind fun ds => meD m a.2 (ds.map (·.2)) else .no)
  | .call n as, G => (evs F as G).bind fun ds => (if keepOk ds = true then (F n (ds.map (·.2))).bind fun r => .ok (if r.1 = true then .own else .val, r.2) else (F n (ds.map (·.2))).quiet.bind fun r => if lendOk r = true then .ok (if r.1 = true then .own else .val, r.2) else .no)
  | .comp tg it t e, G => (evI F it G).bind fun ds => (if (tgSlots tg).all (freeAt G) = true ∧ ds.length < sizeLine then ((compGo (fun G' => asB (ev F t G')) (fun G' => ev F e G') tg (forget (tgSlots tg) G) ds).quiet).bind fun rs => .ok (.own, .lst rs) else .no)
  | .xt t as, G => (evs F as G).bind (xtD F t)
def evs (F : FT) : IEs → Ev → Rs (List (Fl × D))
  | .nil, _ => .ok []
  | .cons x as, G => (ev F x G).bind fun a => (evs F as G).bind fun ds => .ok (a :: ds)
/-- the items that are walked -/
def evI (F : FT) : II → Ev → Rs (List D)
  | .ex x, G => (ev F x G).bind fun a => (if a.1 = .tmp then .no else match itemsD a.2 with | some ds => .ok ds | none => .no)
  | .rng1 x, G => (ev F x G).bind fun a => (match a.2 with | .int j => (if smallI j = true then .ok (rangeD 0 j) else .no) | _ => .no)
  | .rng2 x y, G => (ev F x G).bind fun a => (ev F y G).bind fun b => (match a.2, b.2 with | .int i, .int j => (if (smallI i && smallI j) = true then .ok (rangeD i j) else .no) | _, _ => .no)
  | .zip2 x y, G => (ev F x G).bind fun a => (ev F y G).bind fun b => (if a.1 = .tmp ∨ b.1 = .tmp then .no else match itemsD a.2, itemsD b.2 with | some ds, some es => .ok (zipD ds es) | _, _ => .no)
  | .rev x, G => (ev F x G).bind fun a => (if a.1 = .tmp then .no else match a.2 with | .lst ds => .ok ds.reverse | _ => .no)
  | .xi w as, G => (evs F as G).bind (wkD w)
end
/-! ### statements -/
inductive IS where
  | nil | seq (s r : IS)
  | set (i : Nat) (e : IE) | own (i : Nat) (e : IE) | mv (i : Nat) (e : IE) | retd (i : Nat) | frz (i : Nat) | fgt (is : List Nat)
  | unp (is : List Nat) (e : IE) | aug (i : Nat) (op : Bop) (e : IE)
  | app (i : Nat) (e : IE) | put (i : Nat) (k e : IE) | ins (i : Nat) (k e : IE) | do_ (e : IE)
  | if_ (t : IE) (a b : IS) | whl (t : IE) (b : IS) | for_ (tg : Tg) (it : II) (b : IS)
  | ret (e : IE) | retp (i : Nat) | retN | brk | cnt | pass | nev | rse (c : Nat) (x : Str)
  | xs (t : YT) (as : IEs) | try_ (b : IS) (y : Str) (ys ns : List Nat) (h : Hd)
inductive Out where
  | no | nx (G : Ev) | rt (o : Bool) (d : D) | bk (G : Ev) | ct (G : Ev) | ex (G : Ev) (c : Nat) (fs : List D)
def Rs.out {α : Type} (G : Ev) (k : α → Out) : Rs α → Out
  | .no => .no
  | .ok a => k a
  | .ex c fs => .ex G c fs
@[simp] theorem Rs.out_no {α : Type} (G : Ev) (k : α → Out) : (Rs.no : Rs α).out G k = .no := (rfl)
@[simp] theorem Rs.out_ok {α : Type} (G : Ev) (k : α → Out) (a : α) : (Rs.ok a).out G k = k a := (rfl)
@[simp] theorem Rs.out_ex {α : Type} (G : Ev) (k : α → Out) (c : Nat) (fs : List D) : (Rs.ex c fs : Rs α).out G k = .ex G c fs := (rfl)
/-- a while's turns, at most n of them -/
def loopW (t : Ev → Rs Bool) (b : Ev → Out) : Nat → Ev → Out
  | 0, _ => .no
  | n + 1, G => (t G).out G fun x => if x = true then (match b G with
      | .nx G' => loopW t b n G'
      | .ct G' => loopW t b n G'
      | .bk G' => .nx G'
      | o => o) else .nx G
def loopF (tg : Tg) (b : Ev → Out) : List D → Ev → Out
  | [], G => .nx G
  | d :: ds, G => match bindT tg d G with
    | none => .no
    | some G' => (match b G' with
      | .nx G2 => loopF tg b ds G2
      | .ct G2 => loopF tg b ds G2
      | .bk G2 => .nx G2
      | o => o)
/-- what a further statement does -/
def ytD (F : FT) : YT → Ev → List (Fl × D) → Out
  | .rsx c _ _, G, ds => if keepOk ds = true then .ex G c (ds.map (·.2)).reverse else .no
  | .clr i, G, [] => (match G[i]? with | some (some (true, .lst _)) => .nx (G.set i (some (true, .lst []))) | _ => .no)
  | _, _, _ => .no
/-- behind an except clause -/
def hdG : Hd → Nat → List D → Ev → Ev
  | .as i j, c, fs, G => ((G.set i (some (false, .opq c fs))).set j (some (false, .opq c fs))).set i none
  | .cst j d, _, _, G => G.set j (some (false, d))
/-- a try's end by its body's -/
def tryO (ys ns : List Nat) (h : Hd) : Out → Out
  | .ex G c fs => if ys.contains c = true then .nx (hdG h c fs G) else if ns.contains c = true then .ex G c fs else .no
  | o => o
def exec (F : FT) (n : Nat) : IS → Ev → Out
  | .nil, G => .nx G
  | .seq s r, G => (match exec F n s G with
    | .nx G' => exec F n r G'
    | o => o)
  | .set i e, G => (ev F e G).out G fun r => if r.1 = .tmp then .no else .nx (G.set i (some (false, r.2)))
  | .own i e, G => (ev F e G).out G fun r => if r.1 = .own then .nx (G.set i (some (true, r.2))) else .no
  | .mv i e, G => (ev F e G).out G fun r => if r.1 = .tmp then .no else .nx (G.set i (some (decide (r.1 = .own), r.2)))
  | .retd i, G => (match G[i]? with | some (some (b, d)) => .rt b d | _ => .no)
  | .frz i, G => (match G[i]? with | some (some (true, d)) => .nx (G.set i (some (false, d))) | _ => .no)
  | .fgt is, G => .nx (forget is G)
  | .unp is e, G => (ev F e G).out G fun r => if r.1 = .tmp then .no else (match bindT (.tup is) r.2 G with | some G' => .nx G' | none => .no)
  | .aug i op e, G => (match G[i]? with
    | some (some (false, .int x)) => (ev F e G).out G fun r => (match r.2 with
      | .int y => (match op with | .add => .nx (G.set i (some (false, .int (x + y)))) | .sub => .nx (G.set i (some (false, .int (x - y)))) | _ => .no)
      | _ => .no)
    | _ => .no)
  | .app i e, G => (match G[i]? with
    | some (some (true, .lst xs)) => (ev F e G).out G fun r => if r.1 ≠ .tmp ∧ xs.length < sizeLine then .nx (G.set i (some (true, .lst (xs ++ [r.2])))) else .no
    | _ => .no)
  | .put i k e, G => (match G[i]? with
    | some (some (true, .lst xs)) => (ev F e G).out G fun r => (ev F k G).out G fun q => (match q.2 with
      | .int j => (match ixN xs.length j with | some m => (if r.1 = .tmp then .no else .nx (G.set i (some (true, .lst (xs.set m r.2))))) | none => .no)
      | _ => .no)
    | some (some (true, .dct kvs)) => (ev F e G).out G fun r => (ev F k G).out G fun q => (if r.1 ≠ .tmp ∧ keysOk kvs q.2 = true ∧ kvs.length < sizeLine then .nx (G.set i (some (true, .dct (dPut kvs q.2 r.2)))) else .no)
    | _ => .no)
  | .ins i k e, G => (match G[i]? with
    | some (some (true, .lst xs)) => (ev F k G).out G fun q => (ev F e G).out G fun r => (match q.2 with
      | .int j => if r.1 ≠ .tmp ∧ 0 ≤ j ∧ j < 9223372036854775808 ∧ xs.length < sizeLine then .nx (G.set i (some (true, .lst (xs.take j.toNat ++ [r.2] ++ xs.drop j.toNat)))) else .no
      | _ => .no)
    | _ => .no)
  | .do_ e, G => (ev F e G).out G fun _ => .nx G
  | .if_ t a b, G => (asB (ev F t G)).out G fun x => if x = true then exec F n a G else exec F n b G
  | .whl t b, G => loopW (fun G' => asB (ev F t G')) (fun G' => exec F n b G') n G
  | .for_ tg it b, G => (evI F it G).out G fun ds => loopF tg (fun G' => exec F n b G') ds G
  | .ret e, G => (ev F e G).out G fun r => if r.1 = .tmp then .no else .rt (decide (r.1 = .own)) r.2
  | .retp i, G => (match G[i]? with | some (some (true, d)) => .rt true d | _ => .no)
  | .retN, _ => .rt false .non
  | .brk, G => .bk G
  | .cnt, G => .ct G
  | .pass, G => .nx G
  | .nev, _ => .no
  | .rse c _, G => .ex G c []
  | .xs t as, G => (evs F as G).out G (ytD F t G)
  | .try_ b _ ys ns h, G => tryO ys ns h (exec F n b G)
def startG (N : Nat) (ds : List D) : Ev := ds.map (fun d => some (false, d)) ++ List.replicate (N - ds.length) none
/-- a def's body, run -/
def run (F : FT) (n : Nat) (N : Nat) (b : IS) (ds : List D) : Rs (Bool × D) :=
  match exec F n b (startG N ds) with
  | .nx _ => .ok (false, .non)
  | .rt o d => .ok (o, d)
  | .ex _ c fs => .ex c fs
  | _ => .no
end RA
/-! RA3: the state of a frame as data; operations. -/
namespace RA
open PySem PySem.Spec PyProof.Rows L2
variable [Tabs]
/-- at a stands, to be written, what d tells; its parts do not lean on Z -/
inductive OwnAt (c : Cfg) (Z : Addr → Prop) (H : Hp) : D → Addr → Prop
  | lst {a : Addr} {ds : List D} {vs : List V} : H a = some (.lst vs) → Reps c Z H ds vs → OwnAt c Z H (.lst ds) a
  | dctK {a : Addr} {us : List (Leaf × Value)} {kvs : List (D × D)} : H a = some (.ext fun h => us.length ≤ sizeLine ∧ (a == sysModules) = false ∧ h.DictOf (kindX c.P c.w (noBl kvs)) a us) → RepK c Z H kvs us → OwnAt c Z H (.dct kvs) a
  | dctT {a : Addr} {us : List (NestedKey × Addr × Value)} {kvs : List (D × D)} :
      H a = some (.ext fun h => us.length ≤ sizeLine ∧ (a == sysModules) = false ∧ ∃ o es ep, h.get? a = some o ∧ o.ExactDict ∧ o.data = .dict es ep ∧ es.toList = us.map (entryOfKey (nestedKind c.P c.w)) ∧ (us.map (·.1)).Nodup) → RepT c Z H kvs us → OwnAt c Z H (.dct kvs) a
section
variable {c : Cfg} {Z Z' : Addr → Prop} {H H' : Hp} {d : D} {a : Addr} {v : V}
theorem OwnAt.there (h : OwnAt c Z H d a) : H a ≠ none := by
  cases h with
  | lst h _ => rw [h]; intro z; cases z
  | dctK h _ => rw [h]; intro z; cases z
  | dctT h _ => rw [h]; intro z; cases z
theorem OwnAt.some (h : OwnAt c Z H d a) : ∃ o, H a = some o ∧ OwnK o := by
  cases h with
  | lst h _ => exact ⟨_, h, trivial⟩
  | dctK h _ => exact ⟨_, h, trivial⟩
  | dctT h _ => exact ⟨_, h, trivial⟩
theorem OwnK.noT {o : HO} (h : OwnK o) : NoT o := by
  cases o <;> first | exact trivial | exact h.elim
/-- all else stays, and it itself -/
theorem OwnAt.mono (h : OwnAt c Z H d a) (e : Ext Z H H') (k : H' a = H a) : OwnAt c Z H' d a := by
  cases h with
  | lst h r => exact .lst (k.trans h) (Reps.mono e r)
  | dctK h r => exact .dctK (k.trans h) (RepK.mono e r)
  | dctT h r => exact .dctT (k.trans h) (RepT.mono e r)
theorem OwnAt.grow (h : OwnAt c Z H d a) (g : ∀ b, Z' b → Z b ∨ H b = none) : OwnAt c Z' H d a := by
  cases h with
  | lst h r => exact .lst h (Reps.grow g r)
  | dctK h r => exact .dctK h (RepK.grow g r)
  | dctT h r => exact .dctT h (RepT.grow g r)
theorem Same.at {H H' : Hp} (s : Same H H') {a : Addr} {o : HO} (h : H a = some o) (n : NoT o) : H' a = H a := by
  rw [s.keep a o h n, h]
theorem OwnAt.same (h : OwnAt c Z H d a) (s : Same H H') : OwnAt c Z H' d a := h.mono (Same.ext s) (let ⟨_, e, k⟩ := h.some; Same.at s e k.noT)
/-- given away -/
theorem OwnAt.rep (h : OwnAt c Z H d a) (hz : ¬ Z a) : Rep c Z H d (.ref a) := by
  cases h with
  | lst h r => exact .lst (.of h hz) r
  | dctK h r => exact .dctK h hz r
  | dctT h r => exact .dctT h hz r
theorem Rep.same (h : Rep c Z H d v) (s : Same H H') : Rep c Z H' d v := h.mono (Same.ext s)
theorem Reps.same {ds : List D} {vs : List V} (h : Reps c Z H ds vs) (s : Same H H') : Reps c Z H' ds vs := h.mono (Same.ext s)
end
/-- an evaluated thing: from the heap H to H' -/
def RepF (c : Cfg) (Z : Addr → Prop) (H H' : Hp) (x : Fl × D) (v : V) : Prop := match x.1 with
  | .val => Rep c Z H' x.2 v
  | .tmp => ∃ a, v = .ref a ∧ OwnAt c Z H' x.2 a
  | .own => ∃ a, v = .ref a ∧ H a = none ∧ OwnAt c (fun b => Z b ∨ b = a) H' x.2 a
inductive RepsF (c : Cfg) (Z : Addr → Prop) (H H' : Hp) : List (Fl × D) → List V → Prop
  | nil : RepsF c Z H H' [] []
  | cons {x : Fl × D} {v : V} {xs : List (Fl × D)} {vs : List V} : RepF c Z H H' x v → RepsF c Z H H' xs vs → RepsF c Z H H' (x :: xs) (v :: vs)
section
variable {c : Cfg} {Z : Addr → Prop} {H0 H H' H2 : Hp} {x : Fl × D} {v : V}
theorem RepF.mono (h : RepF c Z H H' x v) (s : Same H' H2) : RepF c Z H H2 x v := by
  obtain ⟨f, d⟩ := x
  cases f with
  | val => exact Rep.same h s
  | tmp => obtain ⟨a, e, r⟩ := h; exact ⟨a, e, r.same s⟩
  | own => obtain ⟨a, e, n, r⟩ := h; exact ⟨a, e, n, r.same s⟩
theorem RepF.back (h : RepF c Z H H' x v) (s : Same H0 H) : RepF c Z H0 H' x v := by
  obtain ⟨f, d⟩ := x
  cases f with
  | val => exact h
  | tmp => exact h
  | own => obtain ⟨a, e, n, r⟩ := h; exact ⟨a, e, s.free n, r⟩
theorem RepsF.mono {xs : List (Fl × D)} {vs : List V} (h : RepsF c Z H H' xs vs) (s : Same H' H2) : RepsF c Z H H2 xs vs := by
  induction h with
  | nil => exact .nil
  | cons r _ ih => exact .cons (r.mono s) ih
theorem RepsF.back {xs : List (Fl × D)} {vs : List V} (h : RepsF c Z H H' xs vs) (s : Same H0 H) : RepsF c Z H0 H' xs vs := by
  induction h with
  | nil => exact .nil
  | cons r _ ih => exact .cons (r.back s) ih
/-- what is kept -/
theorem RepF.keep (h : RepF c Z H H' x v) (hf : x.1 ≠ .tmp) (ht : ∀ a, Z a → H a ≠ none) : Rep c Z H' x.2 v := by
  obtain ⟨f, d⟩ := x
  cases f with
  | val => exact h
  | tmp => exact absurd rfl hf
  | own =>
    obtain ⟨a, rfl, n, r⟩ := h
    exact (r.grow (Z' := Z) fun b z => .inl (.inl z)).rep fun z => ht a z n
theorem RepsF.keep {xs : List (Fl × D)} {vs : List V} (h : RepsF c Z H H' xs vs) (hf : keepOk xs = true) (ht : ∀ a, Z a → H a ≠ none) : Reps c Z H' (xs.map (·.2)) vs := by
  induction h with
  | nil => exact .nil
  | cons r t ih =>
    simp only [keepOk, List.all_cons, Bool.and_eq_true, decide_eq_true_eq] at hf
    exact .cons (r.keep hf.1 ht) (ih (by simpa [keepOk] using hf.2))
/-- a thing that is no list and no dict -/
theorem RepF.low {d : D} {f : Fl} (h : RepF c Z H H' (f, d) v) (hd : ∀ a (Z : Addr → Prop), ¬ OwnAt c Z H' d a) : Rep c Z H' d v := by
  cases f with
  | val => exact h
  | tmp => obtain ⟨a, _, r⟩ := h; exact (hd _ _ r).elim
  | own => obtain ⟨a, _, _, r⟩ := h; exact (hd _ _ r).elim
theorem RepF.int {f : Fl} {i : Int} (h : RepF c Z H H' (f, .int i) v) : v = .int i := by
  cases h.low (fun a Z z => by cases z); rfl
theorem RepF.bl {f : Fl} {i : Bool} (h : RepF c Z H H' (f, .bl i) v) : v = .bl i := by
  cases h.low (fun a Z z => by cases z); rfl
theorem RepF.non {f : Fl} (h : RepF c Z H H' (f, .non) v) : v = .non := by
  cases h.low (fun a Z z => by cases z); rfl
theorem RepF.str {f : Fl} {s : List Nat} (h : RepF c Z H H' (f, .str s) v) : v = .str ⟨⟨s⟩⟩ := by
  cases h.low (fun a Z z => by cases z); rfl
theorem RepF.tup {f : Fl} {ds : List D} (h : RepF c Z H H' (f, .tup ds) v) : ∃ a vs, v = .ref a ∧ TupAt c.K Z H' a vs ∧ Reps c Z H' ds vs := by
  cases h.low (fun a Z z => by cases z) with
  | tup t r => exact ⟨_, _, rfl, t, r⟩
/-- a list, own or not: what it holds -/
theorem RepF.lst {f : Fl} {ds : List D} (h : RepF c Z H H' (f, .lst ds) v) : ∃ a vs, v = .ref a ∧ SqL c.K H' a vs ∧ Reps c Z H' ds vs := by
  cases f with
  | val => cases h with | lst t r => exact ⟨_, _, rfl, t.sq, r⟩
  | tmp => obtain ⟨a, e, r⟩ := h; cases r with | lst t r => exact ⟨a, _, e, .of t, r⟩
  | own => obtain ⟨a, e, _, r⟩ := h; cases r with | lst t r => exact ⟨a, _, e, .of t, r.less fun b z => .inl z⟩
theorem RepF.mkI {i : Int} : RepF c Z H H' (.val, .int i) (.int i) := Rep.int i
theorem RepF.mkS {s : List Nat} : RepF c Z H H' (.val, .str s) (.str ⟨⟨s⟩⟩) := Rep.str s
theorem RepF.mkB {b : Bool} : RepF c Z H H' (.val, .bl b) (.bl b) := Rep.bl b
theorem RepF.mkN : RepF c Z H H' (.val, .non) .non := Rep.non
/-- it may be made anew from the parts -/
theorem RepF.val {d : D} (h : Rep c Z H' d v) : RepF c Z H H' (.val, d) v := h
theorem RepF.newL {a : Addr} {ds : List D} {vs : List V} (n : H a = none) (h : H' a = some (.lst vs)) (r : Reps c (fun b => Z b ∨ b = a) H' ds vs) : RepF c Z H H' (.own, .lst ds) (.ref a) := ⟨a, rfl, n, .lst h r⟩
end
/-- a new list from parts that stood before -/
theorem newL {c : Cfg} {Z : Addr → Prop} {H0 H : Hp} {p : Addr} {ds : List D} {vs : List V} (s : Same H0 H) (hp : H p = none) (r : Reps c Z H ds vs) : Same H (upd H p (.lst vs)) ∧ RepF c Z H0 (upd H p (.lst vs)) (.own, .lst ds) (.ref p) := by
  refine ⟨Same.new hp, RepF.newL (s.free hp) upd_same ?_⟩
  exact (r.grow fun b z => z.elim .inl fun e => .inr (e ▸ hp)).same (Same.new hp)
theorem newT {c : Cfg} {Z : Addr → Prop} {H0 H : Hp} {p : Addr} {ds : List D} {vs : List V} (hz : ∀ a, Z a → H0 a ≠ none) (s : Same H0 H) (hp : H p = none) (r : Reps c Z H ds vs) : Same H (upd H p (.tup vs)) ∧ RepF c Z H0 (upd H p (.tup vs)) (.val, .tup ds) (.ref p) := by
  refine ⟨Same.new hp, ?_⟩
  exact Rep.tup (.of upd_same fun z => hz p z (s.free hp)) (r.same (Same.new hp))
/-! ### the state -/
def ownedAt (G : Ev) (σ : L2.St) (i : Nat) (a : Addr) : Prop := ∃ d, G[i]? = some (some (true, d)) ∧ σ[i]? = some (some (.ref a))
def Owned (G : Ev) (σ : L2.St) (a : Addr) : Prop := ∃ i, ownedAt G σ i a
def Zof (B : Addr → Prop) (G : Ev) (σ : L2.St) (a : Addr) : Prop := B a ∨ Owned G σ a
structure StOk (c : Cfg) (B : Addr → Prop) (G : Ev) (σ : L2.St) (H : Hp) : Prop where
  len : G.length = σ.length
  tr : ∀ a, B a → H a ≠ none
  tab : TabsOk H
  apart : ∀ a, Owned G σ a → ¬ B a
  uniq : ∀ i j a, ownedAt G σ i a → ownedAt G σ j a → i = j
  val : ∀ (i : Nat) (d : D), G[i]? = some (some (false, d)) → ∃ v, σ[i]? = some (some v) ∧ Rep c (Zof B G σ) H d v
  own : ∀ (i : Nat) (d : D), G[i]? = some (some (true, d)) → ∃ a, σ[i]? = some (some (.ref a)) ∧ OwnAt c (Zof B G σ) H d a
section
variable {c : Cfg} {B : Addr → Prop} {G : Ev} {σ : L2.St} {H H' : Hp}
theorem StOk.same (S : StOk c B G σ H) (s : Same H H') : StOk c B G σ H' :=
  ⟨S.len, fun a h => s.there a (S.tr a h), s.tab S.tab, S.apart, S.uniq, fun i d e => let ⟨v, h1, h2⟩ := S.val i d e; ⟨v, h1, h2.same s⟩, fun i d e => let ⟨a, h1, h2⟩ := S.own i d e; ⟨a, h1, h2.same s⟩⟩
theorem StOk.ztr (S : StOk c B G σ H) : ∀ a, Zof B G σ a → H a ≠ none := fun a h => by
  rcases h with h | ⟨i, d, h1, h2⟩
  · exact S.tr a h
  · obtain ⟨b, h3, h4⟩ := S.own i d h1
    have e : a = b := by rw [h2] at h3; injection h3 with h3; injection h3 with h3; injection h3
    rw [e]; exact h4.there
end
/-! ### readings -/
/-- an error as data -/
def ExcAt (c : Cfg) (B : Addr → Prop) (H : Hp) (x : Nat) (fs : List D) (cls : Value) (dd : Option Addr) : Prop :=
  cls = .ref (c.ecls x) ∧ ((fs = [] ∧ dd = none) ∨ ∃ d vs, dd = some d ∧ ¬ B d ∧ H d = some (.xd ((c.enames x).zip vs)) ∧ Reps c B H fs vs)
def ResE (c : Cfg) (B Z : Addr → Prop) (W : WX) (σ : L2.St) (H : Hp) (r : Rs (Fl × D)) (Q : VK) : Prop := match r with
  | .no => False
  | .ok x => ∀ v H', Same H H' → RepF c Z H H' x v → Q v H'
  | .ex x fs => ∀ cls dd H', Same H H' → ExcAt c Z H' x fs cls dd → W cls dd σ H'
def ResA (c : Cfg) (B Z : Addr → Prop) (W : WX) (σ : L2.St) (H : Hp) (r : Rs (List (Fl × D))) (Q : List V → Hp → Prop) : Prop := match r with
  | .no => False
  | .ok xs => ∀ vs H', Same H H' → RepsF c Z H H' xs vs → Q vs H'
  | .ex x fs => ∀ cls dd H', Same H H' → ExcAt c Z H' x fs cls dd → W cls dd σ H'
def ResB (c : Cfg) (B Z : Addr → Prop) (W : WX) (σ : L2.St) (H : Hp) (r : Rs Bool) (Q : Bool → Hp → Prop) : Prop := match r with
  | .no => False
  | .ok b => ∀ H', Same H H' → Q b H'
  | .ex x fs => ∀ cls dd H', Same H H' → ExcAt c Z H' x fs cls dd → W cls dd σ H'
def tE (c : Cfg) (B : Addr → Prop) (W : WX) (G : Ev) (r : Rs (Fl × D)) : TE := fun σ H Q => StOk c B G σ H ∧ ResE c B (Zof B G σ) W σ H r Q
def tA (c : Cfg) (B : Addr → Prop) (W : WX) (G : Ev) (r : Rs (List (Fl × D))) : TA := fun σ H Q => StOk c B G σ H ∧ ResA c B (Zof B G σ) W σ H r Q
def tT (c : Cfg) (B : Addr → Prop) (W : WX) (G : Ev) (r : Rs Bool) : TT := fun σ H Q => StOk c B G σ H ∧ ResB c B (Zof B G σ) W σ H r Q
theorem _root_.L2.PE.weak {X : Cx} {e : Expr} {t t' : TE} (h : PE X e t) (k : ∀ σ H Q, t' σ H Q → t σ H Q) : PE X e t' := ⟨fun pins s σ H Q I q => h.run pins s σ H Q I (k σ H Q q)⟩
theorem _root_.L2.PT.weak {X : Cx} {e : Expr} {t t' : TT} (h : PT X e t) (k : ∀ σ H Q, t' σ H Q → t σ H Q) : PT X e t' := ⟨fun pins s σ H Q I q => h.run pins s σ H Q I (k σ H Q q)⟩
theorem _root_.L2.PA.weak {X : Cx} {e : List Expr} {t t' : TA} (h : PA X e t) (k : ∀ σ H Q, t' σ H Q → t σ H Q) : PA X e t' := ⟨fun pos pins s σ H Q I q => h.run pos pins s σ H Q I (k σ H Q q)⟩
theorem _root_.L2.PS.weak {X : Cx} {e : Stmt} {t t' : TS} (h : PS X e t) (k : ∀ D σ H, t' D σ H → t D σ H) : PS X e t' := ⟨fun pins s σ H D I q => h.run pins s σ H D I (k D σ H q)⟩
theorem _root_.L2.PSs.weak {X : Cx} {e : List Stmt} {t t' : TS} (h : PSs X e t) (k : ∀ D σ H, t' D σ H → t D σ H) : PSs X e t' := ⟨fun pins s σ H D I q => h.run pins s σ H D I (k D σ H q)⟩
theorem _root_.L2.PE.never {X : Cx} {e : Expr} {t : TE} (k : ∀ σ H Q, ¬ t σ H Q) : PE X e t := ⟨fun pins s σ H Q I q => (k σ H Q q).elim⟩
/-! ### operations on values -/
section
variable {X : Cx} {O : OpT}
/-- an operation of two values, told by f of their data -/
def rTwo (c : Cfg) (f : D → D → Rs (Fl × D)) : R2 := fun x y H Q => ∃ (Z : Addr → Prop) (H0 : Hp) (a b r : Fl × D), (∀ a, Z a → H0 a ≠ none) ∧ Same H0 H ∧ RepF c Z H0 H a x ∧ RepF c Z H0 H b y ∧ f a.2 b.2 = .ok r ∧ ∀ v H', Same H H' → RepF c Z H0 H' r v → Q v H'
def bopIs : Bop → Operator
  | .add => .Add | .sub => .Sub | .mul => .Mult | .fdiv => .FloorDiv | .mod => .Mod | .pow => .Pow | .shl => .LShift | .shr => .RShift | .band => .BitAnd | .bor => .BitOr
theorem Str.app (s t : List Nat) : (⟨⟨s⟩⟩ : PySem.Str) ++ (⟨⟨t⟩⟩ : PySem.Str) = ⟨⟨s ++ t⟩⟩ := by
  show (⟨Array.mk s ++ Array.mk t⟩ : PySem.Str) = ⟨⟨s ++ t⟩⟩
  simp
theorem Str.len (s : List Nat) : (⟨⟨s⟩⟩ : PySem.Str).length = s.length := rfl
theorem flat_fold : ∀ (k : Nat) (x acc : List Nat), (List.replicate k (Array.mk x)).foldl (· ++ ·) (Array.mk acc) = Array.mk (acc ++ (List.replicate k x).flatten)
  | 0, x, acc => by simp
  | k + 1, x, acc => by
    rw [List.replicate_succ, List.foldl_cons, List.replicate_succ, List.flatten_cons]
    have e : Array.mk acc ++ Array.mk x = Array.mk (acc ++ x) := by simp
    rw [e, flat_fold k x (acc ++ x), List.append_assoc]
theorem txt_mul (s : List Nat) (j : Int) (h0 : 0 ≤ j) : Txt.mul ⟨⟨s⟩⟩ j = ⟨⟨(List.replicate j.toNat s).flatten⟩⟩ := by
  unfold Txt.mul
  by_cases h1 : j < 1
  · have e : j.toNat = 0 := by omega
    rw [if_pos h1, e]; rfl
  · rw [if_neg h1]
    by_cases h2 : (j == 1 || (⟨⟨s⟩⟩ : PySem.Str).length == 0) = true
    · rw [if_pos h2]
      rw [Bool.or_eq_true, beq_iff_eq, beq_iff_eq] at h2
      rcases h2 with h2 | h2
      · have e : j.toNat = 1 := by omega
        rw [e]; simp
      · have e : s = [] := List.eq_nil_of_length_eq_zero h2
        rw [e]; simp
    · rw [if_neg h2]
      have e := flat_fold j.toNat s []
      show (⟨(List.replicate j.toNat (Array.mk s)).foldl (· ++ ·) #[]⟩ : PySem.Str) = _
      rw [show (#[] : Array Nat) = Array.mk [] from rfl, e]; rfl
theorem mul_ok (s : List Nat) (j : Int) (h : 0 ≤ j ∧ s.length * j.toNat ≤ 1000000 ∧ j ≤ 1000000) : MulOk ⟨⟨s⟩⟩ j := by
  obtain ⟨h0, h1, h2⟩ := h
  refine ⟨?_, fun h3 h4 => ?_, fun h3 h4 => ?_⟩
  · have e1 : decide (j < -(2 ^ 63 : Int)) = false := decide_eq_false (by omega)
    have e2 : decide (j ≥ 2 ^ 63) = false := decide_eq_false (by omega)
    rw [e1, e2]; rfl
  · have e : (s.length : Int) * j ≤ 1000000 := by
      have : ((s.length * j.toNat : Nat) : Int) ≤ ((1000000 : Nat) : Int) := Int.ofNat_le.mpr h1
      rw [Int.natCast_mul, Int.toNat_of_nonneg h0] at this
      omega
    show ¬ ((s.length : Int) > (2 ^ 63 - 1) / j)
    have hj : 0 < j := by omega
    rw [gt_iff_lt, Int.ediv_lt_iff_lt_mul hj]
    omega
  · show Builtin.Str.tooLong (s.length * j.toNat) = false
    unfold Builtin.Str.tooLong
    exact decide_eq_false (by rw [sizeLine_eq]; omega)
theorem op_bin (op : Bop) : OpR X (binaryOp (bopIs op)) (rTwo (cfg X O) (binD op)) := by
  intro pins s σ H x y v u Q I rx ry h
  obtain ⟨Z, H0, ⟨fa, a⟩, ⟨fb, b⟩, r, hz, s0, ra, rb, e, q⟩ := h
  change binD op a b = Rs.ok r at e
  unfold binD at e
  split at e
  all_goals first | cases e | skip
  · have ea := ra.int; have eb := rb.int; subst ea eb
    exact op_add pins s σ H _ _ v u Q I rx ry ⟨_, _, rfl, rfl, q _ _ (Same.refl H) RepF.mkI⟩
  · have ea := ra.str; have eb := rb.str; subst ea eb
    split at e
    · cases e
      exact op_add_str pins s σ H _ _ v u Q I rx ry ⟨_, _, rfl, rfl, by assumption, q _ _ (Same.refl H) (by rw [Str.app]; exact RepF.mkS)⟩
    · cases e
  · have ea := ra.int; have eb := rb.int; subst ea eb
    exact op_sub pins s σ H _ _ v u Q I rx ry ⟨_, _, rfl, rfl, q _ _ (Same.refl H) RepF.mkI⟩
  · have ea := ra.int; have eb := rb.int; subst ea eb
    split at e
    · rename_i hm
      cases e
      have hm' := of_decide_eq_true hm
      exact op_mul pins s σ H _ _ v u Q I rx ry ⟨_, _, rfl, rfl, hm', q _ _ (Same.refl H) RepF.mkI⟩
    · cases e
  · have ea := ra.str; have eb := rb.int; subst ea eb
    split at e
    · rename_i hm
      cases e
      obtain ⟨t, rfl⟩ := rx
      obtain ⟨t', rfl⟩ := ry
      refine SB.mul (mul_ok _ _ hm) fun t' k => (⟨.str (Txt.mul _ _), H, I.tok k, ⟨t', rfl⟩, ?_⟩ : EP X pins σ Q _ _)
      rw [txt_mul _ _ hm.1]
      exact q _ _ (Same.refl H) RepF.mkS
    · cases e
  · have ea := ra.int; have eb := rb.int; subst ea eb
    split at e
    · rename_i hm
      cases e
      exact op_fdiv pins s σ H _ _ v u Q I rx ry ⟨_, _, rfl, rfl, hm, q _ _ (Same.refl H) RepF.mkI⟩
    · cases e
  · have ea := ra.int; have eb := rb.int; subst ea eb
    split at e
    · rename_i hm
      cases e
      exact op_mod pins s σ H _ _ v u Q I rx ry ⟨_, _, rfl, rfl, hm, q _ _ (Same.refl H) RepF.mkI⟩
    · cases e
  · have ea := ra.int; have eb := rb.int; subst ea eb
    split at e
    · rename_i hm
      cases e
      have hm' := of_decide_eq_true hm
      exact op_pow pins s σ H _ _ v u Q I rx ry ⟨_, _, rfl, rfl, hm', q _ _ (Same.refl H) RepF.mkI⟩
    · cases e
  · have ea := ra.int; have eb := rb.int; subst ea eb
    split at e
    · rename_i hm
      cases e
      have hm' := of_decide_eq_true hm
      exact op_shl pins s σ H _ _ v u Q I rx ry ⟨_, _, rfl, rfl, hm', q _ _ (Same.refl H) RepF.mkI⟩
    · cases e
  · have ea := ra.int; have eb := rb.int; subst ea eb
    split at e
    · rename_i hm
      cases e
      exact op_shr pins s σ H _ _ v u Q I rx ry ⟨_, _, rfl, rfl, hm, q _ _ (Same.refl H) RepF.mkI⟩
    · cases e
  · have ea := ra.int; have eb := rb.int; subst ea eb
    exact op_and pins s σ H _ _ v u Q I rx ry ⟨_, _, rfl, rfl, q _ _ (Same.refl H) RepF.mkI⟩
  · have ea := ra.int; have eb := rb.int; subst ea eb
    exact op_or pins s σ H _ _ v u Q I rx ry ⟨_, _, rfl, rfl, q _ _ (Same.refl H) RepF.mkI⟩
end
end RA
/-! RAD: dicts whose keys are carried by their values (None, bools, ints, texts). -/
namespace RA
open PySem PySem.Spec PyProof.Rows L2
variable [Tabs]
theorem key_leaf {k1 k : D} {l1 l : Leaf} (h1 : leafD k1 = some l1) (h : leafD k = some l) : keyEq k1 k = decide (l1 = l) := by
  unfold keyEq
  cases k1 <;> simp only [leafD, reduceCtorEq, Option.some.injEq] at h1 <;> cases k <;> simp only [leafD, reduceCtorEq, Option.some.injEq] at h <;> subst h1 h <;> simp [keyD]
theorem leaf_is {P : Program} {w : World} {c : Cfg} {Z : Addr → Prop} {H : Hp} {k : D} {l : Leaf} {x : V} {u : Value} {e : Bool} (h : leafD k = some l) (he : e = true → isBl k = false) (r : Rep c Z H k x) (ru : RelV x u) : (kindX P w e).is l u = true := by
  have h1 : (leafKind P w).is l u = true := by
    cases r <;> simp only [leafD, reduceCtorEq, Option.some.injEq] at h
    · subst h; cases ru; rfl
    · subst h; cases ru
      exact decide_eq_true rfl
    · subst h
      obtain ⟨t, rfl⟩ := ru
      exact decide_eq_true rfl
    · subst h
      obtain ⟨t, rfl⟩ := ru
      simp [leafKind, Leaf.isOf, Value.isStrOf]
  have h2 : (!e || notBlV u) = true := by
    cases e with
    | false => rfl
    | true =>
      have he := he rfl
      cases r <;> first | (simp [leafD] at h; done) | skip
      · cases ru; rfl
      · exact absurd (show true = false from he) (by decide)
      · obtain ⟨t, rfl⟩ := ru; rfl
      · obtain ⟨t, rfl⟩ := ru; rfl
  show ((leafKind P w).is l u && (!e || notBlV u)) = true
  rw [h1, h2]; rfl
theorem keysL_leafy {kvs : List (D × D)} {k : D} (h : keysL kvs k = true) : RA.leafy k = true ∧ kvs.all (fun kv => RA.leafy kv.1) = true := by
  unfold keysL at h
  rw [Bool.and_eq_true] at h
  refine ⟨h.1, List.all_eq_true.mpr fun x hx => ?_⟩
  have := List.all_eq_true.mp h.2 x hx
  rw [Bool.and_eq_true] at this
  exact this.1
theorem keysL_bl {kvs : List (D × D)} {k : D} (h : keysL kvs k = true) : kvs = [] ∨ noBl kvs = !isBl k := by
  unfold keysL at h
  rw [Bool.and_eq_true] at h
  cases kvs with
  | nil => exact .inl rfl
  | cons x l =>
    refine .inr ?_
    have key : ∀ y ∈ x :: l, isBl y.1 = isBl k := fun y hy => by
      have := List.all_eq_true.mp h.2 y hy
      rw [Bool.and_eq_true] at this
      exact eq_of_beq this.2
    unfold noBl
    cases q : isBl k with
    | false => exact List.all_eq_true.mpr fun y hy => by rw [key y hy, q]; rfl
    | true =>
      rw [List.all_cons, key x List.mem_cons_self, q]; rfl
theorem noBl_put {kvs : List (D × D)} {k d : D} (h : keysL kvs k = true) : noBl (dPut kvs k d) = !isBl k := by
  have hb := keysL_bl h
  unfold dPut
  split
  · rename_i hc
    rcases hb with rfl | hb
    · simp at hc
    · rw [← hb]
      unfold noBl
      rw [List.all_map]
      congr 1
      funext kv
      show (!isBl (if keyEq kv.1 k = true then (kv.1, d) else kv).1) = _
      split <;> rfl
  · unfold noBl at hb ⊢
    rw [List.all_append]
    rcases hb with rfl | hb
    · simp
    · rw [hb]; simp
section
variable {c : Cfg} {B : Addr → Prop} {H : Hp}
theorem RepK.length : ∀ {kvs : List (D × D)} {us : List (Leaf × Value)}, RepK c B H kvs us → kvs.length = us.length
  | _, _, .nil => rfl
  | _, _, .cons _ _ _ t => by rw [List.length_cons, List.length_cons, RepK.length t]
theorem RepK.val {k : D} {l : Leaf} (hk : leafD k = some l) : ∀ {kvs : List (D × D)} {us : List (Leaf × Value)}, RepK c B H kvs us →
    (∃ d v u, dGet kvs k = some d ∧ valueAt us l = some u ∧ RelV v u ∧ Rep c B H d v) ∨ (dGet kvs k = none ∧ valueAt us l = none)
  | _, _, .nil => .inr ⟨rfl, rfl⟩
  | _, _, .cons (k := k1) (d := d) (v := v) (l := l1) (u := u) (kvs := kvs) (us := us) h r ru t => by
    have e := key_leaf h hk
    by_cases q : l1 = l
    · refine .inl ⟨d, v, u, ?_, ?_, ru, r⟩
      · unfold dGet; rw [List.find?_cons]; simp only [e, q, decide_true]; rfl
      · unfold valueAt; rw [List.find?_cons]; simp only [q, decide_true]; rfl
    · have a : dGet ((k1, d) :: kvs) k = dGet kvs k := by unfold dGet; rw [List.find?_cons]; simp only [e, q, decide_false]
      have b : valueAt ((l1, u) :: us) l = valueAt us l := by unfold valueAt; rw [List.find?_cons]; simp only [q, decide_false]
      rw [a, b]
      exact RepK.val hk t
theorem RepK.any {k : D} {l : Leaf} (hk : leafD k = some l) : ∀ {kvs : List (D × D)} {us : List (Leaf × Value)}, RepK c B H kvs us → (kvs.any fun kv => keyEq kv.1 k) = us.any fun kv => decide (kv.1 = l)
  | _, _, .nil => rfl
  | _, _, .cons h r ru t => by rw [List.any_cons, List.any_cons, key_leaf h hk, RepK.any hk t]
theorem RepK.repl {k d : D} {l : Leaf} {v : V} {u : Value} (hk : leafD k = some l) (r : Rep c B H d v) (ru : RelV v u) : ∀ {kvs : List (D × D)} {us : List (Leaf × Value)}, RepK c B H kvs us →
    RepK c B H (kvs.map fun kv => if keyEq kv.1 k = true then (kv.1, d) else kv) (us.map fun kv => if kv.1 = l then (kv.1, u) else kv)
  | _, _, .nil => .nil
  | _, _, .cons (k := k1) (l := l1) h r1 ru1 t => by
    rw [List.map_cons, List.map_cons]
    have e := key_leaf h hk
    by_cases q : l1 = l
    · rw [if_pos (by rw [e]; exact decide_eq_true q), if_pos q]
      exact .cons h r ru (RepK.repl hk r ru t)
    · rw [if_neg (by rw [e]; simpa using q), if_neg q]
      exact .cons h r1 ru1 (RepK.repl hk r ru t)
theorem RepK.snoc {k d : D} {l : Leaf} {v : V} {u : Value} (hk : leafD k = some l) (r : Rep c B H d v) (ru : RelV v u) : ∀ {kvs : List (D × D)} {us : List (Leaf × Value)}, RepK c B H kvs us → RepK c B H (kvs ++ [(k, d)]) (us ++ [(l, u)])
  | _, _, .nil => .cons hk r ru .nil
  | _, _, .cons h r1 ru1 t => .cons h r1 ru1 (RepK.snoc hk r ru t)
theorem RepK.put {k d : D} {l : Leaf} {v : V} {u : Value} (hk : leafD k = some l) (r : Rep c B H d v) (ru : RelV v u) {kvs : List (D × D)} {us : List (Leaf × Value)} (t : RepK c B H kvs us) : RepK c B H (dPut kvs k d) (stored us l u) := by
  unfold dPut stored
  rw [RepK.any hk t]
  split
  · exact RepK.repl hk r ru t
  · exact RepK.snoc hk r ru t
end
theorem stored_len {us : List (Leaf × Value)} {l : Leaf} {u : Value} : (stored us l u).length ≤ us.length + 1 := by
  unfold stored
  split
  · rw [List.length_map]; omega
  · rw [List.length_append, List.length_cons, List.length_nil]; omega
/-- what a by-value dict's object is -/
def phK (P : Program) (w : World) (e : Bool) (a : Addr) (us : List (Leaf × Value)) : Heap → Prop := fun h => us.length ≤ sizeLine ∧ (a == sysModules) = false ∧ h.DictOf (kindX P w e) a us
theorem RepK.phK {P : Program} {w : World} {c : Cfg} {B : Addr → Prop} {H : Hp} {h : Heap} {a : Addr} {kvs : List (D × D)} {k : D} {us : List (Leaf × Value)} (hk : keysL kvs k = true) (r : RepK c B H kvs us) (p : RA.phK P w (noBl kvs) a us h) : RA.phK P w (!isBl k) a us h := by
  rcases keysL_bl hk with rfl | q
  · cases r
    exact ⟨p.1, p.2.1, dict_nil p.2.2⟩
  · rw [← q]; exact p
theorem not_bl {k : D} : (!isBl k) = true → isBl k = false := fun h => by
  cases q : isBl k with
  | false => rfl
  | true => rw [q] at h; cases h
section
variable {X : Cx} {O : OpT} {pins : List (Addr × Obj)} {σ : L2.St} {H : Hp} {s : Shared}
theorem dict_own {Z : Addr → Prop} {kvs : List (D × D)} {a : Addr} (I : Inv X pins σ H s) (r : OwnAt (cfg X O) Z H (.dct kvs) a) (hl : kvs.all (fun kv => leafy kv.1) = true) :
    ∃ us φ, H a = some (.ext φ) ∧ RepK (cfg X O) Z H kvs us ∧ phK X.prog X.w (noBl kvs) a us s.heap := by
  cases r with
  | dctK h r => exact ⟨_, _, h, r, (show ObjOk X.prog X.w H s.heap a _ from I.hok a _ h).1⟩
  | dctT h r =>
    have q := (show ObjOk X.prog X.w H s.heap a _ from I.hok a _ h).1
    cases r with
    | nil =>
      obtain ⟨q1, q2, o, es, ep, g1, g2, g3, g4, g5⟩ := q
      have e : es = #[] := by
        have : es.toList = [] := by simpa using g4
        exact Array.toList_eq_nil_iff.mp this
      subst e
      exact ⟨[], _, h, .nil, Nat.zero_le _, q2, o, #[], ep, g1, g2, g3, fun e he => by simp at he, .nil, List.nodup_nil⟩
    | cons hk _ _ _ _ _ =>
      simp [RA.leafy, leafD] at hl
theorem dict_val {Z : Addr → Prop} {H0 : Hp} {f : Fl} {kvs : List (D × D)} {v : V} (I : Inv X pins σ H s) (r : RepF (cfg X O) Z H0 H (f, .dct kvs) v) (hl : kvs.all (fun kv => leafy kv.1) = true) :
    ∃ a us, v = .ref a ∧ RepK (cfg X O) Z H kvs us ∧ phK X.prog X.w (noBl kvs) a us s.heap := by
  have low : ∀ {Z' : Addr → Prop} {a : Addr}, (∀ b, Z b → Z' b) → OwnAt (cfg X O) Z' H (.dct kvs) a → ∃ us, RepK (cfg X O) Z H kvs us ∧ phK X.prog X.w (noBl kvs) a us s.heap := fun {Z' a} hz o => by
    obtain ⟨us, φ, _, r, p⟩ := dict_own I o hl
    exact ⟨us, RepK.grow (fun b z => .inl (hz b z)) r, p⟩
  cases f with
  | val =>
    cases r with
    | dctK h b r =>
      exact ⟨_, _, rfl, r, (show ObjOk X.prog X.w H s.heap _ _ from I.hok _ _ h).1⟩
    | dctT h b r =>
      obtain ⟨us, k1, k2⟩ := low (fun b z => z) (OwnAt.dctT h r)
      exact ⟨_, us, rfl, k1, k2⟩
  | tmp =>
    obtain ⟨a, rfl, o⟩ := r
    obtain ⟨us, k1, k2⟩ := low (fun b z => z) o
    exact ⟨a, us, rfl, k1, k2⟩
  | own =>
    obtain ⟨a, rfl, _, o⟩ := r
    obtain ⟨us, k1, k2⟩ := low (fun b z => .inl z) o
    exact ⟨a, us, rfl, k1, k2⟩
/-- the key -/
theorem leafy_of {k : D} (h : leafy k = true) : ∃ l, leafD k = some l := Option.isSome_iff_exists.mp h
theorem leaf_rep {c : Cfg} {Z : Addr → Prop} {H0 H : Hp} {f : Fl} {k : D} {l : Leaf} {v : V} (h : leafD k = some l) (r : RepF c Z H0 H (f, k) v) : Rep c Z H k v := by
  cases k <;> simp only [leafD, reduceCtorEq] at h
  · rw [r.non]; exact .non
  · rw [r.bl]; exact .bl _
  · rw [r.int]; exact .int _
  · rw [r.str]; exact .str _
/-- d[k] = v, d an own dict -/
def rSetD (c : Cfg) : V → V → V → Hp → (Hp → Prop) → Prop := fun o i v H Q => ∃ (Z : Addr → Prop) (H0 : Hp) (a : Addr) (kvs : List (D × D)) (k d : D) (f : Fl), o = .ref a ∧ OwnAt c Z H (.dct kvs) a ∧ keysL kvs k = true ∧ kvs.length < sizeLine ∧ RepF c Z H0 H (f, k) i ∧ Rep c Z H d v ∧
  ∀ us, RepK c Z H (dPut kvs k d) us → Q (upd H a (.ext (phK c.P c.w (noBl (dPut kvs k d)) a us)))
theorem set_dict : PSet X (rSetD (cfg X O)) := by
  intro pins s σ H o i v ov iv u Q I ro ri rv h
  obtain ⟨Z, H0, a, kvs, k, d, f, rfl, own, hk, hlen, rk, rd, q⟩ := h
  obtain ⟨l, hl⟩ := leafy_of (keysL_leafy hk).1
  obtain ⟨us, φ, he, r, ph0⟩ := dict_own I own (keysL_leafy hk).2
  obtain ⟨hz, hd, dd⟩ := r.phK hk ph0
  obtain rfl : ov = Value.ref a := ro
  have ki := leaf_is (P := X.prog) (w := X.w) hl not_bl (leaf_rep hl rk) ri
  refine wpAny_setItem_pairs (hsz := hz) ki dd fun h' dd' hs => ?_
  have he' : ∃ q, h'.get? a = some q := let ⟨q, _, _, hq, _⟩ := dd'; ⟨q, hq⟩
  have hl2 : (stored us l u).length ≤ sizeLine := by
    have := stored_len (us := us) (l := l) (u := u)
    rw [r.length] at hlen
    omega
  have qq := q _ (r.put hl rd rv)
  rw [noBl_put hk] at qq
  refine ⟨_, d_write I (by rw [he]; exact True.intro) hs he' ?_, qq⟩
  exact ⟨⟨hl2, hd, dd'⟩, he', fun h1 h2 z k => ⟨z.1, z.2.1, z.2.2.at k⟩⟩
theorem PSet.or {r1 r2 : TSet} (h1 : PSet X r1) (h2 : PSet X r2) : PSet X (fun o i v H Q => r1 o i v H Q ∨ r2 o i v H Q) := by
  intro pins s σ H o i v ov iv u Q I ro ri rv h
  rcases h with h | h
  · exact h1 pins s σ H o i v ov iv u Q I ro ri rv h
  · exact h2 pins s σ H o i v ov iv u Q I ro ri rv h
end
end RA
/-! RAT: dicts whose keys are tuples. -/
namespace RA
open PySem PySem.Spec PyProof.Rows L2
variable [Tabs]
theorem tupKey_of {k : D} (h : tupKey k = true) : ∃ ks l, k = .tup ks ∧ keyD (.tup ks) = some l ∧ l.depth ≤ 8 := by
  unfold tupKey at h
  split at h
  · rename_i ks
    split at h
    · rename_i l e
      exact ⟨ks, l, rfl, e, of_decide_eq_true h⟩
    · cases h
  · cases h
theorem key_tup {k1 k : D} {l1 l : NestedKey} (h1 : keyD k1 = some l1) (h : keyD k = some l) : keyEq k1 k = decide (l1 = l) := by
  unfold keyEq
  rw [h1, h]
  by_cases e : l1 = l
  · rw [e, decide_eq_true rfl, decide_eq_true rfl]
  · rw [decide_eq_false e, decide_eq_false (fun z => e (Option.some.inj z))]
section
variable {c : Cfg} {B : Addr → Prop} {H : Hp}
theorem RepT.length : ∀ {kvs : List (D × D)} {us : List (NestedKey × Addr × Value)}, RepT c B H kvs us → kvs.length = us.length
  | _, _, .nil => rfl
  | _, _, .cons _ _ _ _ _ t => by rw [List.length_cons, List.length_cons, RepT.length t]
theorem atKey_cons {l1 l : NestedKey} {q : Addr} {u : Value} {us : List (NestedKey × Addr × Value)} : atKey ((l1, q, u) :: us) l = if l1 = l then some (q, u) else atKey us l := by
  unfold atKey
  rw [List.find?_cons]
  by_cases e : l1 = l
  · simp [e]
  · simp [e]
theorem dGet_cons {k1 d k : D} {kvs : List (D × D)} : dGet ((k1, d) :: kvs) k = if keyEq k1 k = true then some d else dGet kvs k := by
  unfold dGet
  rw [List.find?_cons]
  by_cases e : keyEq k1 k = true
  · simp [e]
  · simp [e]
theorem RepT.val {k : D} {l : NestedKey} (hk : keyD k = some l) : ∀ {kvs : List (D × D)} {us : List (NestedKey × Addr × Value)}, RepT c B H kvs us →
    (∃ d v u q, dGet kvs k = some d ∧ atKey us l = some (q, u) ∧ RelV v u ∧ Rep c B H d v) ∨ (dGet kvs k = none ∧ atKey us l = none)
  | _, _, .nil => .inr ⟨rfl, rfl⟩
  | _, _, .cons (k := k1) (l := l1) (d := d) (v := v) (u := u) (q := q) h _ _ r ru t => by
    have e := key_tup h hk
    rw [dGet_cons, atKey_cons, e]
    by_cases z : l1 = l
    · rw [if_pos z, if_pos (decide_eq_true z)]
      exact .inl ⟨d, v, u, q, rfl, rfl, ru, r⟩
    · rw [if_neg z, if_neg (by simpa using z)]
      exact RepT.val hk t
theorem RepT.any {k : D} {l : NestedKey} (hk : keyD k = some l) : ∀ {kvs : List (D × D)} {us : List (NestedKey × Addr × Value)}, RepT c B H kvs us → (kvs.any fun kv => keyEq kv.1 k) = (atKey us l).isSome
  | _, _, .nil => rfl
  | _, _, .cons (l := l1) h _ _ r ru t => by
    rw [List.any_cons, key_tup h hk, RepT.any hk t, atKey_cons]
    by_cases z : l1 = l
    · rw [if_pos z, decide_eq_true z]; rfl
    · rw [if_neg z, decide_eq_false z]; rfl
theorem RepT.repl {k d : D} {l : NestedKey} {v : V} {u : Value} (hk : keyD k = some l) (r : Rep c B H d v) (ru : RelV v u) : ∀ {kvs : List (D × D)} {us : List (NestedKey × Addr × Value)}, RepT c B H kvs us →
    RepT c B H (kvs.map fun kv => if keyEq kv.1 k = true then (kv.1, d) else kv) (us.map (putAt l u))
  | _, _, .nil => .nil
  | _, _, .cons (k := k1) (l := l1) h dp kq r1 ru1 t => by
    rw [List.map_cons, List.map_cons]
    have e := key_tup h hk
    unfold putAt
    by_cases q : l1 = l
    · rw [if_pos (by rw [e]; exact decide_eq_true q), if_pos q]
      exact .cons h dp kq r ru (RepT.repl hk r ru t)
    · rw [if_neg (by rw [e]; simpa using q), if_neg q]
      exact .cons h dp kq r1 ru1 (RepT.repl hk r ru t)
theorem RepT.snoc {k : List D} {d : D} {l : NestedKey} {q : Addr} {v : V} {u : Value} (hk : keyD (.tup k) = some l) (dp : l.depth ≤ 8) (kq : Rep c B H (.tup k) (.ref q)) (r : Rep c B H d v) (ru : RelV v u) : ∀ {kvs : List (D × D)} {us : List (NestedKey × Addr × Value)}, RepT c B H kvs us → RepT c B H (kvs ++ [(.tup k, d)]) (us ++ [(l, q, u)])
  | _, _, .nil => .cons hk dp kq r ru .nil
  | _, _, .cons h dp1 kq1 r1 ru1 t => .cons h dp1 kq1 r1 ru1 (RepT.snoc hk dp kq r ru t)
theorem RepT.put {k : List D} {d : D} {l : NestedKey} {q : Addr} {v : V} {u : Value} (hk : keyD (.tup k) = some l) (dp : l.depth ≤ 8) (kq : Rep c B H (.tup k) (.ref q)) (r : Rep c B H d v) (ru : RelV v u) {kvs : List (D × D)} {us : List (NestedKey × Addr × Value)} (t : RepT c B H kvs us) : RepT c B H (dPut kvs (.tup k) d) (storedH us l q u) := by
  unfold dPut storedH
  rw [RepT.any hk t]
  split
  · exact RepT.repl hk r ru t
  · exact RepT.snoc hk dp kq r ru t
end
theorem storedH_len {us : List (NestedKey × Addr × Value)} {l : NestedKey} {q : Addr} {u : Value} : (storedH us l q u).length ≤ us.length + 1 := by
  unfold storedH
  split
  · rw [List.length_map]; omega
  · rw [List.length_append, List.length_cons, List.length_nil]; omega
/-- what a dict's object is whose keys are tuples -/
def phT (P : Program) (w : World) (a : Addr) (us : List (NestedKey × Addr × Value)) : Heap → Prop := fun h => us.length ≤ sizeLine ∧ (a == sysModules) = false ∧ ∃ o es ep, h.get? a = some o ∧ o.ExactDict ∧ o.data = .dict es ep ∧ es.toList = us.map (entryOfKey (nestedKind P w)) ∧ (us.map (·.1)).Nodup
theorem phT_at {P : Program} {w : World} {a : Addr} {us : List (NestedKey × Addr × Value)} (h1 h2 : Heap) (z : phT P w a us h1) (k : ∀ o, h1.get? a = some o → h2.get? a = some o) : phT P w a us h2 :=
  ⟨z.1, z.2.1, let ⟨o, es, ep, e, r⟩ := z.2.2; ⟨o, es, ep, k o e, r⟩⟩
section
variable {X : Cx} {O : OpT} {pins : List (Addr × Obj)} {σ : L2.St} {H : Hp} {s : Shared}
mutual
theorem key_is (I : Inv X pins σ H s) {Z : Addr → Prop} : ∀ {d : D} {v : V} {l : NestedKey} {u : Value}, Rep (cfg X O) Z H d v → keyD d = some l → RelV v u → NestedIs s.heap l u
  | _, _, _, _, .non, h, ru => by cases h; cases ru; exact .none
  | _, _, _, _, .bl b, h, ru => by cases h; cases ru; exact .bool rfl
  | _, _, _, _, .int i, h, ru => by cases h; obtain ⟨t, rfl⟩ := ru; exact .int _ _
  | _, _, _, _, .str x, h, ru => by cases h; obtain ⟨t, rfl⟩ := ru; exact .text _ _
  | _, _, _, _, .tup t r, h, ru => by
    obtain ⟨ls, e, rfl⟩ := Option.map_eq_some_iff.mp (show (keyDs _).map NestedKey.tup = some _ from h)
    cases ru
    obtain ⟨its, rv, ⟨o, ho, hc, n, hd⟩, _⟩ := I.tuple t.sq
    exact .tup ho hc hd (keys_is I r e rv)
  | _, _, _, _, .lst _ _, h, _ => by cases h
  | _, _, _, _, .dctK _ _ _, h, _ => by cases h
  | _, _, _, _, .dctT _ _ _, h, _ => by cases h
  | _, _, _, _, .opq _ _, h, _ => by cases h
theorem keys_is (I : Inv X pins σ H s) {Z : Addr → Prop} : ∀ {ds : List D} {vs : List V} {ls : List NestedKey} {us : List Value}, Reps (cfg X O) Z H ds vs → keyDs ds = some ls → Vals vs us → NestedAll s.heap ls us
  | _, _, _, _, .nil, h, .nil => by cases h; exact .nil
  | _, _, _, _, .cons (d := d) (ds := ds) r t, h, .cons ru tu => by
    have h : (match keyD d, keyDs ds with | some k, some ks => some (k :: ks) | _, _ => none) = some _ := h
    cases e1 : keyD d with
    | none => rw [e1] at h; cases h
    | some k =>
      cases e2 : keyDs ds with
      | none => rw [e1, e2] at h; cases h
      | some ks =>
        rw [e1, e2] at h
        cases h
        exact .cons (key_is I r e1 ru) (keys_is I t e2 tu)
end
theorem RepT.isAll (I : Inv X pins σ H s) {Z : Addr → Prop} : ∀ {kvs : List (D × D)} {us : List (NestedKey × Addr × Value)}, RepT (cfg X O) Z H kvs us → ∀ x ∈ us, (nestedKind X.prog X.w).is s.heap x.1 x.2.1
  | _, _, .nil, x, hx => by cases hx
  | _, _, .cons h dp kq _ _ t, x, hx => by
    rcases List.mem_cons.mp hx with e | hx
    · subst e; exact ⟨key_is I kq h rfl, dp⟩
    · exact RepT.isAll I t x hx
theorem dictH (I : Inv X pins σ H s) {Z : Addr → Prop} {kvs : List (D × D)} {us : List (NestedKey × Addr × Value)} {a : Addr} (r : RepT (cfg X O) Z H kvs us) (p : phT X.prog X.w a us s.heap) : s.heap.DictOfH (nestedKind X.prog X.w) a us := by
  obtain ⟨_, _, o, es, ep, h1, h2, h3, h4, h5⟩ := p
  exact ⟨o, es, ep, h1, h2, h3, h4, r.isAll I, h5⟩
theorem phT_of {h' : Heap} {a : Addr} {us : List (NestedKey × Addr × Value)} (hl : us.length ≤ sizeLine) (hd : (a == sysModules) = false) (z : h'.DictOfH (nestedKind X.prog X.w) a us) : phT X.prog X.w a us h' := by
  obtain ⟨o, es, ep, h1, h2, h3, h4, _, h5⟩ := z
  exact ⟨hl, hd, o, es, ep, h1, h2, h3, h4, h5⟩
theorem leaf_tup {k : D} (h : tupKey k = true) : leafD k = none := by
  obtain ⟨ks, l, rfl, _⟩ := tupKey_of h
  rfl
theorem dict_ownT {Z : Addr → Prop} {kvs : List (D × D)} {a : Addr} (I : Inv X pins σ H s) (r : OwnAt (cfg X O) Z H (.dct kvs) a) (hl : kvs.all (fun kv => tupKey kv.1) = true) :
    ∃ us φ, H a = some (.ext φ) ∧ RepT (cfg X O) Z H kvs us ∧ phT X.prog X.w a us s.heap := by
  cases r with
  | dctT h r => exact ⟨_, _, h, r, (show ObjOk X.prog X.w H s.heap a _ from I.hok a _ h).1⟩
  | dctK h r =>
    have q := (show ObjOk X.prog X.w H s.heap a _ from I.hok a _ h).1
    cases r with
    | nil =>
      obtain ⟨q1, q2, o, es, ep, g1, g2, g3, g4, g5, g6⟩ := q
      have e : es.toList = [] := by
        cases g5' : es.toList with
        | nil => rfl
        | cons x l => rw [g5'] at g5; cases g5
      exact ⟨[], _, h, .nil, Nat.zero_le _, q2, o, es, ep, g1, g2, g3, e, List.nodup_nil⟩
    | cons hk _ _ _ =>
      rw [List.all_cons, Bool.and_eq_true] at hl
      rw [leaf_tup hl.1] at hk; cases hk
theorem dict_valT {Z : Addr → Prop} {H0 : Hp} {f : Fl} {kvs : List (D × D)} {v : V} (I : Inv X pins σ H s) (r : RepF (cfg X O) Z H0 H (f, .dct kvs) v) (hl : kvs.all (fun kv => tupKey kv.1) = true) :
    ∃ a us, v = .ref a ∧ RepT (cfg X O) Z H kvs us ∧ phT X.prog X.w a us s.heap := by
  have low : ∀ {Z' : Addr → Prop} {a : Addr}, (∀ b, Z b → Z' b) → OwnAt (cfg X O) Z' H (.dct kvs) a → ∃ us, RepT (cfg X O) Z H kvs us ∧ phT X.prog X.w a us s.heap := fun {Z' a} hz o => by
    obtain ⟨us, φ, _, r, p⟩ := dict_ownT I o hl
    exact ⟨us, RepT.grow (fun b z => .inl (hz b z)) r, p⟩
  cases f with
  | val =>
    cases r with
    | dctT h b r => exact ⟨_, _, rfl, r, (show ObjOk X.prog X.w H s.heap _ _ from I.hok _ _ h).1⟩
    | dctK h b r =>
      obtain ⟨us, k1, k2⟩ := low (fun b z => z) (OwnAt.dctK h r)
      exact ⟨_, us, rfl, k1, k2⟩
  | tmp =>
    obtain ⟨a, rfl, o⟩ := r
    obtain ⟨us, k1, k2⟩ := low (fun b z => z) o
    exact ⟨a, us, rfl, k1, k2⟩
  | own =>
    obtain ⟨a, rfl, _, o⟩ := r
    obtain ⟨us, k1, k2⟩ := low (fun b z => .inl z) o
    exact ⟨a, us, rfl, k1, k2⟩
theorem RepF.tupv {c : Cfg} {Z : Addr → Prop} {H0 H : Hp} {f : Fl} {ds : List D} {v : V} (h : RepF c Z H0 H (f, .tup ds) v) : ∃ a, v = .ref a ∧ Rep c Z H (.tup ds) (.ref a) := by
  cases h.low (fun a Z z => by cases z) with
  | tup t r => exact ⟨_, rfl, .tup t r⟩
theorem room_T (hu : X.A.units + 64 < cLine) : (nestedKind X.prog X.w).room X.A.in1 := by
  show X.A.in1.units + 8 < cLine
  have : X.A.in1.units = X.A.units + 1 := rfl
  omega
/-- d[k] = v, d an own dict, k a tuple -/
def rSetT (c : Cfg) : V → V → V → Hp → (Hp → Prop) → Prop := fun o i v H Q => ∃ (Z : Addr → Prop) (H0 : Hp) (a : Addr) (kvs : List (D × D)) (k d : D) (f : Fl), o = .ref a ∧ OwnAt c Z H (.dct kvs) a ∧ keysT kvs k = true ∧ kvs.length < sizeLine ∧ RepF c Z H0 H (f, k) i ∧ Rep c Z H d v ∧
  ∀ us, RepT c Z H (dPut kvs k d) us → Q (upd H a (.ext (phT c.P c.w a us)))
theorem set_dictT (hu : X.A.units + 64 < cLine) : PSet X (rSetT (cfg X O)) := by
  intro pins s σ H o i v ov iv u Q I ro ri rv h
  obtain ⟨Z, H0, a, kvs, k, d, f, rfl, own, hk, hlen, rk, rd, q⟩ := h
  unfold keysT at hk
  rw [Bool.and_eq_true] at hk
  obtain ⟨ks, l, rfl, hl, hdp⟩ := tupKey_of hk.1
  obtain ⟨us, φ, he, r, hph⟩ := dict_ownT I own hk.2
  obtain rfl : ov = Value.ref a := ro
  obtain ⟨q0, rfl, kq⟩ := rk.tupv
  obtain rfl : iv = Value.ref q0 := ri
  have ki : (nestedKind X.prog X.w).is s.heap l q0 := ⟨key_is I kq hl rfl, hdp⟩
  refine wpAny_setItem_heap (hsz := hph.1) (room_T hu) ki (dictH I r hph) fun h' dd' hs => ?_
  have hl2 : (storedH us l q0 u).length ≤ sizeLine := by
    have := storedH_len (us := us) (l := l) (q := q0) (u := u)
    rw [r.length] at hlen
    omega
  have ph' := phT_of hl2 hph.2.1 dd'
  have he' : ∃ q, h'.get? a = some q := let ⟨q, _, _, hq, _⟩ := dd'; ⟨q, hq⟩
  refine ⟨_, d_write I (by rw [he]; exact True.intro) hs he' ?_, q _ (RepT.put hl hdp kq rd rv r)⟩
  exact ⟨ph', he', fun h1 h2 z k => phT_at h1 h2 z k⟩
end
/-! ### {k: v} with a tuple -/
section
variable {prog : Program} {w : World} {A : Around} {E : Value → Shared → Prop} {s : Shared}
theorem wpAny_store1 {d q : Addr} {l : NestedKey} {v : Value} {Q : PUnit → Shared → Prop} (hr : (nestedKind prog w).room A) (hk : (nestedKind prog w).is s.heap l q) (hm : s.heap.DictOfH (nestedKind prog w) d [])
    (hQ : ∀ h', h'.DictOfH (nestedKind prog w) d [(l, q, v)] → Heap.SameBut d s.heap h' → ∀ t, Q PUnit.unit { s with heap := h', toks := t }) :
    wpAny (model prog w) A (forIn [(Value.ref q, v)] PUnit.unit fun (x : Value × Value) (_ : PUnit) => (do dictSet d x.1 x.2; pure (ForInStep.yield PUnit.unit) : Sem (ForInStep PUnit))) Q E s := by
  rw [List.forIn_cons]
  refine wpAny_bind (wpAny_bind (wpAny_dictSet_heap (hsz := Nat.zero_le _) hr hk hm fun h₁ hm₁ hs₁ => wpAny_pure ?_))
  exact wpAny_pure (hQ h₁ (by simpa [storedH, atKey] using hm₁) hs₁ _)
theorem wpAny_subDict1 {p : Sem Value × Sem Value} {Q : Addr → Shared → Prop} (hr : (nestedKind prog w).room A)
    (h : wpAny (model prog w) A (evalPairs [p]) (fun vs s₁ => ∃ q l v, vs = [(.ref q, v)] ∧ (nestedKind prog w).is s₁.heap l q ∧ s₁.heap.DictOfH (nestedKind prog w) s.heap.objs.size [] ∧
      ∀ h', h'.DictOfH (nestedKind prog w) s.heap.objs.size [(l, q, v)] → Heap.SameBut s.heap.objs.size s₁.heap h' → ∀ t, Q s.heap.objs.size { s₁ with heap := h', toks := t }) E
      { s with heap := s.heap.push { cls := .type "dict", data := .dict #[] } }) :
    wpAny (model prog w) A (subDict [p]) Q E s := by
  unfold subDict
  refine wpAny_bind (wpAny_alloc ?_)
  refine wpAny_bind (wpAny_holding ?_)
  rw [if_pos (by simp)]
  refine wpAny_bind (wpAny_mono h (fun vs s₁ h₁ => ?_) fun _ _ e => e)
  obtain ⟨q, l, v, rfl, hk, hm, hQ⟩ := h₁
  refine wpAny_holding ?_
  exact wpAny_bind (wpAny_store1 hr hk hm fun h' hm' hs' t => wpAny_pure (wpAny_pure (hQ h' hm' hs' t)))
theorem wpAny_Dict_one {kx vx : Expr} {env : Env} {pos : Pos} {Q : Value → Shared → Prop} (hr : (nestedKind prog w).room A)
    (h : wpAny (model prog w) A (evalPairs (pairTrees [some kx] [vx] env pos)) (fun vs s₁ => ∃ q l v, vs = [(.ref q, v)] ∧ (nestedKind prog w).is s₁.heap l q ∧ s₁.heap.DictOfH (nestedKind prog w) s.heap.objs.size [] ∧
      ∀ h', h'.DictOfH (nestedKind prog w) s.heap.objs.size [(l, q, v)] → Heap.SameBut s.heap.objs.size s₁.heap h' → ∀ t, Q (.ref s.heap.objs.size) { s₁ with heap := h', toks := t }) E
      { s with heap := s.heap.push { cls := .type "dict", data := .dict #[] } }) :
    wpAny (model prog w) A (eval (.Dict [some kx] [vx] pos) env) Q E s := by
  rw [arm_eval_Dict, zip_pairTrees _ _ env pos rfl rfl]
  have e := dictDisplay_pairs (pairTrees [some kx] [vx] env pos) (by intro z; cases z) (by show 1 < 17; omega)
  rw [e]
  exact wpAny_bind (wpAny_standAt (wpAny_bind (wpAny_subDict1 (Q := fun d s' => wpAny (model prog w) A (pure (Value.ref d)) Q E s') hr
    (wpAny_mono h (fun vs s₁ h₁ => by obtain ⟨q, l, v, e1, e2, e3, hq⟩ := h₁; exact ⟨q, l, v, e1, e2, e3, fun h' a b t => wpAny_pure (hq h' a b t)⟩) fun _ _ e => e))))
end
end RA
/-! RA4: comparisons, items, slices, built-ins. -/
namespace RA
open PySem PySem.Spec PyProof.Rows L2
variable [Tabs]
/-! ### data for == -/
section
variable {c : Cfg} {Z : Addr → Prop} {H : Hp}
mutual
theorem Rep.dp : ∀ {d : D} {v : V}, Rep c Z H d v → (∀ k, toP d ≠ .dict k) → (SeqAt.shaped (toP d) = true ∨ (toP d).canLay0 = true) → Dp c.K H v (toP d)
  | _, _, .non, _, _ => .non
  | _, _, .bl b, _, _ => .bl b
  | _, _, .int i, _, _ => .int i
  | _, _, .str s, _, _ => .str _
  | _, _, .tup h r, _, hs => by
    rw [toP]
    exact .tup h.sq (Reps.dp r (hs.elim (fun z => SeqAt.canLay_of_shaped z) fun z => z))
  | _, _, .lst h r, _, hs => by
    rw [toP]
    exact .lst h.sq (Reps.dp r (hs.elim (fun z => SeqAt.canLay_of_shaped z) fun z => z))
  | _, _, .dctK _ _ _, hn, _ => (hn [] rfl).elim
  | _, _, .dctT _ _ _, hn, _ => (hn [] rfl).elim
  | _, _, .opq _ _, hn, _ => (hn [] rfl).elim
theorem Reps.dp : ∀ {ds : List D} {vs : List V}, Reps c Z H ds vs → PyData.canLayAll0 (toPs ds) = true → DpAll c.K H vs (toPs ds)
  | _, _, .nil, _ => .nil
  | d :: _, _, .cons h t, hs => by
    have e : ((toP d).canLay0 && PyData.canLayAll0 (toPs _)) = true := hs
    rw [Bool.and_eq_true] at e
    exact .cons (Rep.dp h (fun k z => by rw [z] at e; exact absurd e.1 Bool.false_ne_true) (.inr e.1)) (Reps.dp t e.2)
end
/-- of any evaluated thing -/
theorem RepF.dp {H0 : Hp} {x : Fl × D} {v : V} (h : RepF c Z H0 H x v) (hs : SeqAt.shaped (toP x.2) = true) : Dp c.K H v (toP x.2) := by
  obtain ⟨f, d⟩ := x
  have hc := SeqAt.canLay_of_shaped hs
  have hn : ∀ k, toP d ≠ .dict k := fun k z => by
    have hc : (toP d).canLay0 = true := hc
    rw [z] at hc; exact absurd hc Bool.false_ne_true
  have low : ∀ {Z' : Addr → Prop} {a : Addr}, OwnAt c Z' H d a → Dp c.K H (.ref a) (toP d) := fun {Z' a} r => by
    cases r with
    | lst h r => rw [toP]; exact .lst (.of h) (Reps.dp r hc)
    | dctK _ _ => exact (hn [] rfl).elim
    | dctT _ _ => exact (hn [] rfl).elim
  cases f with
  | val => exact Rep.dp h hn (.inl hs)
  | tmp => obtain ⟨a, rfl, r⟩ := h; exact low r
  | own => obtain ⟨a, rfl, _, r⟩ := h; exact low r
end
def vS : D → V
  | .non => .non | .bl b => .bl b | .int i => .int i | .str s => .str ⟨⟨s⟩⟩ | _ => .non
theorem RepF.flat {c : Cfg} {Z : Addr → Prop} {H0 H : Hp} {f : Fl} {d : D} {v : V} (h : RepF c Z H0 H (f, d) v) (hd : flatD d = true) : v = vS d := by
  cases d with
  | non => exact h.non
  | bl b => exact h.bl
  | int i => exact h.int
  | str s => exact h.str
  | _ => exact absurd hd Bool.false_ne_true
theorem Rep.flat {c : Cfg} {Z : Addr → Prop} {H : Hp} {d : D} {v : V} (h : Rep c Z H d v) (hd : flatD d = true) : v = vS d :=
  RepF.flat (H0 := H) (f := .val) (show RepF c Z H H (.val, d) v from h) hd
theorem flatV_vS {d : D} (h : flatD d = true) : flatV (vS d) = true := by cases d <;> first | rfl | exact absurd h Bool.false_ne_true
theorem eqV_vS {x y : D} (hx : flatD x = true) (hy : flatD y = true) : eqV (vS y) (vS x) = eqF y x := by
  cases x <;> first | (exact absurd hx Bool.false_ne_true) | skip
  all_goals cases y <;> first | (exact absurd hy Bool.false_ne_true) | rfl | skip
  · rename_i a b
    show ((⟨⟨b⟩⟩ : PySem.Str) == ⟨⟨a⟩⟩) = (b == a)
    rw [Bool.eq_iff_iff, beq_iff_eq, beq_iff_eq]
    exact ⟨fun e => by injection e with e; injection e, fun e => by rw [e]⟩
theorem inV_vS {c : Cfg} {Z : Addr → Prop} {H : Hp} {x : D} (hx : flatD x = true) : ∀ {ds : List D} {vs : List V}, Reps c Z H ds vs → ds.all flatD = true → vs.all flatV = true ∧ inV (vS x) vs = ds.any fun y => eqF y x
  | _, _, .nil, _ => ⟨rfl, rfl⟩
  | d :: ds, v :: vs, .cons h t, hd => by
    rw [List.all_cons, Bool.and_eq_true] at hd
    obtain ⟨h1, h2⟩ := inV_vS hx t hd.2
    have e := h.flat hd.1
    subst e
    refine ⟨by rw [List.all_cons, flatV_vS hd.1, h1]; rfl, ?_⟩
    unfold inV at h2 ⊢
    rw [List.any_cons, List.any_cons, h2, eqV_vS hx hd.1]
theorem scal_of {x y : D} (h : scalD x y = true) : scal (vS x) (vS y) = true ∧ decide (vS x = vS y) = eqS x y ∧ flatD x = true ∧ flatD y = true := by
  cases x <;> cases y <;> first | (exact absurd h Bool.false_ne_true) | skip
  all_goals (refine ⟨rfl, ?_, rfl, rfl⟩; simp [vS, eqS])
section
variable {X : Cx} {O : OpT}
def copIs : Cop → CmpOp
  | .eq => .Eq | .ne => .NotEq | .lt => .Lt | .le => .LtE | .gt => .Gt | .ge => .GtE | .isn => .Is | .isnt => .IsNot | .mem => .In | .nmem => .NotIn
def rCmp (c : Cfg) (f : D → D → Rs Bool) : R2 := fun x y H Q => ∃ (Z : Addr → Prop) (H0 : Hp) (a b : Fl × D) (r : Bool), (∀ a, Z a → H0 a ≠ none) ∧ Same H0 H ∧ RepF c Z H0 H a x ∧ RepF c Z H0 H b y ∧ f a.2 b.2 = .ok r ∧ Q (.bl r) H
theorem op_eqX (hu : X.A.units + 64 < cLine) : OpR X (compareOp .Eq) (rCmp (cfg X O) eqD) := by
  intro pins s σ H x y v u Q I rx ry h
  obtain ⟨Z, H0, ⟨fa, a⟩, ⟨fb, b⟩, r, hz, s0, ra, rb, e, q⟩ := h
  change eqD a b = Rs.ok r at e
  unfold eqD at e
  split at e
  · rename_i hs
    cases e
    obtain ⟨h1, h2, h3, h4⟩ := scal_of hs
    have ea := ra.flat h3; have eb := rb.flat h4; subst ea eb
    exact op_eq pins s σ H _ _ v u Q I rx ry ⟨h1, by rw [h2]; exact q⟩
  · split at e
    · rename_i hs
      cases e
      rw [Bool.and_eq_true] at hs
      exact op_eqD hu pins s σ H _ _ v u Q I rx ry ⟨_, _, ra.dp hs.1, rb.dp hs.2, hs.1, hs.2, q⟩
    · cases e
theorem op_neX (hu : X.A.units + 64 < cLine) : OpR X (compareOp .NotEq) (rCmp (cfg X O) fun x y => (eqD x y).bind fun b => .ok (!b)) := by
  intro pins s σ H x y v u Q I rx ry h
  obtain ⟨Z, H0, ⟨fa, a⟩, ⟨fb, b⟩, r, hz, s0, ra, rb, e, q⟩ := h
  change (eqD a b).bind (fun b => Rs.ok (!b)) = Rs.ok r at e
  unfold eqD at e
  split at e
  · rename_i hs
    cases e
    obtain ⟨h1, h2, h3, h4⟩ := scal_of hs
    have ea := ra.flat h3; have eb := rb.flat h4; subst ea eb
    exact op_ne pins s σ H _ _ v u Q I rx ry ⟨h1, by rw [h2]; exact q⟩
  · split at e
    · rename_i hs
      cases e
      rw [Bool.and_eq_true] at hs
      exact op_neD hu pins s σ H _ _ v u Q I rx ry ⟨_, _, ra.dp hs.1, rb.dp hs.2, hs.1, hs.2, q⟩
    · cases e
theorem op_gt_strX : OpR X (compareOp .Gt) (fun x y H Q => ∃ i j, x = .str i ∧ y = .str j ∧ Q (.bl (decide (j.cps.toList < i.cps.toList))) H) := op_gt_str
theorem isn_of {c : Cfg} {Z : Addr → Prop} {H0 H : Hp} {f : Fl} {d : D} {v : V} (h : RepF c Z H0 H (f, d) v) : decide (v = .non) = isNon d := by
  cases d with
  | non => rw [h.non]; rfl
  | bl b => rw [h.bl]; rfl
  | int i => rw [h.int]; rfl
  | str s => rw [h.str]; rfl
  | tup xs => obtain ⟨a, vs, rfl, _⟩ := h.tup; rfl
  | lst xs => obtain ⟨a, vs, rfl, _⟩ := h.lst; rfl
  | dct kvs =>
    cases f with
    | val => cases h <;> rfl
    | tmp => obtain ⟨a, rfl, _⟩ := h; rfl
    | own => obtain ⟨a, rfl, _⟩ := h; rfl
  | opq n cs =>
    cases f with
    | val => cases h; rfl
    | tmp => obtain ⟨a, rfl, _⟩ := h; rfl
    | own => obtain ⟨a, rfl, _⟩ := h; rfl
/-- x in y, x not in y -/
theorem op_memX (hu : X.A.units + 65 < cLine) (neg : Bool) : OpR X (compareOp (if neg = true then .NotIn else .In)) (rCmp (cfg X O) fun x y => (memD x y).bind fun b => .ok (if neg = true then !b else b)) := by
  intro pins s σ H x y v u Q I rx ry h
  obtain ⟨Z, H0, ⟨fa, a⟩, ⟨fb, b⟩, r, hz, s0, ra, rb, e, q⟩ := h
  change (memD a b).bind (fun b => Rs.ok (if neg = true then !b else b)) = Rs.ok r at e
  unfold memD at e
  split at e
  · split at e
    · cases e
      have ea := ra.str; have eb := rb.str; subst ea eb
      cases neg with
      | true => exact op_notIn_sign pins s σ H _ _ v u Q I rx ry ⟨_, _, rfl, rfl, q⟩
      | false => exact op_in_sign pins s σ H _ _ v u Q I rx ry ⟨_, _, rfl, rfl, q⟩
    · cases e
  · obtain ⟨p, vs, rfl, hl, hr⟩ := rb.lst
    split at e
    · rename_i hf
      cases e
      rw [Bool.and_eq_true] at hf
      have ea := ra.flat hf.1; subst ea
      obtain ⟨h1, h2⟩ := inV_vS hf.1 hr hf.2
      cases neg with
      | true => exact op_notIn_seq pins s σ H _ _ v u Q I rx ry ⟨p, vs, rfl, .inl hl, flatV_vS hf.1, h1, by rw [if_pos rfl, h2]; exact q⟩
      | false => exact op_in_seq pins s σ H _ _ v u Q I rx ry ⟨p, vs, rfl, .inl hl, flatV_vS hf.1, h1, by rw [if_neg Bool.false_ne_true, h2]; exact q⟩
    · split at e
      · rename_i hs
        cases e
        rw [Bool.and_eq_true] at hs
        cases neg with
        | true => exact op_notInD hu pins s σ H _ _ v u Q I rx ry ⟨_, _, ra.dp hs.1, rb.dp hs.2, hs.1, hs.2, by rw [if_pos rfl] at q; exact q⟩
        | false => exact op_inD hu pins s σ H _ _ v u Q I rx ry ⟨_, _, ra.dp hs.1, rb.dp hs.2, hs.1, hs.2, by rw [if_neg Bool.false_ne_true] at q; exact q⟩
      · cases e
  · obtain ⟨p, vs, rfl, hl, hr⟩ := rb.tup
    split at e
    · rename_i hf
      cases e
      rw [Bool.and_eq_true] at hf
      have ea := ra.flat hf.1; subst ea
      obtain ⟨h1, h2⟩ := inV_vS hf.1 hr hf.2
      cases neg with
      | true => exact op_notIn_seq pins s σ H _ _ v u Q I rx ry ⟨p, vs, rfl, .inr hl.sq, flatV_vS hf.1, h1, by rw [if_pos rfl, h2]; exact q⟩
      | false => exact op_in_seq pins s σ H _ _ v u Q I rx ry ⟨p, vs, rfl, .inr hl.sq, flatV_vS hf.1, h1, by rw [if_neg Bool.false_ne_true, h2]; exact q⟩
    · cases e
  · split at e
    · rename_i kvs hk
      cases e
      unfold keysOk at hk
      rw [Bool.or_eq_true] at hk
      rcases hk with hk | hk
      rotate_left
      · unfold keysT at hk
        rw [Bool.and_eq_true] at hk
        obtain ⟨ks, l, rfl, hl, hdp⟩ := tupKey_of hk.1
        obtain ⟨a', us, rfl, rk, ph⟩ := dict_valT (O := O) I rb hk.2
        obtain rfl : u = Value.ref a' := ry
        obtain ⟨q0, rfl, kq⟩ := ra.tupv
        obtain rfl : v = Value.ref q0 := rx
        have ki : (nestedKind X.prog X.w).is s.heap l q0 := ⟨key_is I kq hl rfl, hdp⟩
        have es : (atKey us l).isSome = (dGet kvs (.tup ks)).isSome := by
          rcases RepT.val hl rk with ⟨d, v', u', q', g1, g2, _⟩ | ⟨g1, g2⟩ <;> rw [g1, g2] <;> rfl
        cases neg with
        | true =>
          refine wpAny_notIn_heap (room_T (Nat.lt_of_succ_lt hu)) ki ph.2.1 (dictH I rk ph) ⟨.bl _, H, I.tok _, rfl, ?_⟩
          rw [es]; exact q
        | false =>
          refine wpAny_in_heap (room_T (Nat.lt_of_succ_lt hu)) ki ph.2.1 (dictH I rk ph) ⟨.bl _, H, I.tok _, rfl, ?_⟩
          rw [es]; exact q
      obtain ⟨l, hl⟩ := leafy_of (keysL_leafy hk).1
      obtain ⟨a', us, rfl, rk, ph0⟩ := dict_val (O := O) I rb (keysL_leafy hk).2
      obtain ⟨hz, hd, dd⟩ := rk.phK hk ph0
      cases ry
      have ki := leaf_is (P := X.prog) (w := X.w) hl not_bl (leaf_rep hl ra) rx
      have es : (valueAt us l).isSome = (dGet kvs a).isSome := by
        rcases RepK.val hl rk with ⟨d, v', u', g1, g2, _⟩ | ⟨g1, g2⟩ <;> rw [g1, g2] <;> rfl
      cases neg with
      | true =>
        refine wpAny_notIn_of ki hd dd.mapOf ⟨.bl _, H, I.tok _, rfl, ?_⟩
        rw [es]; exact q
      | false =>
        refine wpAny_in_of ki hd dd.mapOf ⟨.bl _, H, I.tok _, rfl, ?_⟩
        rw [es]; exact q
    · cases e
  · cases e
theorem op_cmp (hu5 : X.A.units + 65 < cLine) (op : Cop) : OpR X (compareOp (copIs op)) (rCmp (cfg X O) (cmpD op)) := by
  have hu : X.A.units + 64 < cLine := Nat.lt_of_succ_lt hu5
  intro pins s σ H x y v u Q I rx ry h
  obtain ⟨Z, H0, ⟨fa, a⟩, ⟨fb, b⟩, r, hz, s0, ra, rb, e, q⟩ := h
  change cmpD op a b = Rs.ok r at e
  have h0 : rCmp (cfg X O) (cmpD op) x y H Q := ⟨Z, H0, (fa, a), (fb, b), r, hz, s0, ra, rb, e, q⟩
  unfold cmpD at e
  split at e
  · exact op_eqX hu pins s σ H _ _ v u Q I rx ry ⟨Z, H0, (fa, a), (fb, b), r, hz, s0, ra, rb, e, q⟩
  · exact op_neX hu pins s σ H _ _ v u Q I rx ry ⟨Z, H0, (fa, a), (fb, b), r, hz, s0, ra, rb, e, q⟩
  · cases e
    have ea := ra.int; have eb := rb.int; subst ea eb
    exact op_lt pins s σ H _ _ v u Q I rx ry ⟨_, _, rfl, rfl, q⟩
  · cases e
    have ea := ra.str; have eb := rb.str; subst ea eb
    exact op_lt_str pins s σ H _ _ v u Q I rx ry ⟨_, _, rfl, rfl, q⟩
  · cases e
    have ea := ra.int; have eb := rb.int; subst ea eb
    exact op_le pins s σ H _ _ v u Q I rx ry ⟨_, _, rfl, rfl, q⟩
  · cases e
    have ea := ra.int; have eb := rb.int; subst ea eb
    exact op_gt pins s σ H _ _ v u Q I rx ry ⟨_, _, rfl, rfl, q⟩
  · cases e
    have ea := ra.str; have eb := rb.str; subst ea eb
    exact op_gt_strX pins s σ H _ _ v u Q I rx ry ⟨_, _, rfl, rfl, q⟩
  · cases e
    have ea := ra.int; have eb := rb.int; subst ea eb
    exact op_ge pins s σ H _ _ v u Q I rx ry ⟨_, _, rfl, rfl, q⟩
  · cases e
    have eb := rb.non; subst eb
    exact op_isN pins s σ H _ _ v u Q I rx ry ⟨rfl, by rw [isn_of ra]; exact q⟩
  · cases e
    have eb := rb.non; subst eb
    refine op_notN pins s σ H _ _ v u Q I rx ry ⟨rfl, ?_⟩
    rw [isn_of ra]; exact q
  · refine op_memX hu5 false pins s σ H _ _ v u Q I rx ry ⟨Z, H0, (fa, a), (fb, b), r, hz, s0, ra, rb, ?_, q⟩
    show (memD a b).bind (fun b => Rs.ok (if false = true then !b else b)) = Rs.ok r
    rw [e]; rfl
  · refine op_memX hu5 true pins s σ H _ _ v u Q I rx ry ⟨Z, H0, (fa, a), (fb, b), r, hz, s0, ra, rb, ?_, q⟩
    exact e
  · cases e
end
/-! ### items -/
section
variable {X : Cx} {O : OpT}
def rIxD (c : Cfg) : R2 := fun x y H Q => ∃ (Z : Addr → Prop) (H0 : Hp) (a b : Fl × D) (r : D), (∀ a, Z a → H0 a ≠ none) ∧ Same H0 H ∧ RepF c Z H0 H a x ∧ RepF c Z H0 H b y ∧ ixD a.2 b.2 = .ok r ∧ ∀ v H', Same H H' → Rep c Z H' r v → Q v H'
theorem atI_reps {c : Cfg} {Z : Addr → Prop} {H : Hp} {ds : List D} {vs : List V} {i : Int} {d : D} (r : Reps c Z H ds vs) (h : atI ds i = some d) : ∃ v, atI vs i = some v ∧ Rep c Z H d v := by
  unfold atI at h ⊢
  rw [← r.length]
  cases e : ixN ds.length i with
  | none => rw [e] at h; cases h
  | some j =>
    rw [e] at h
    exact r.get h
theorem ix_data (hu : X.A.units + 64 < cLine) : IxR X (rIxD (cfg X O)) := by
  intro value slice pins s σ H x y v u Q I rx ry h hs
  obtain ⟨Z, H0, ⟨fa, a⟩, ⟨fb, b⟩, r, hz, s0, ra, rb, e, q⟩ := h
  change ixD a b = Rs.ok r at e
  unfold ixD at e
  split at e
  · have eb := rb.int; subst eb
    obtain ⟨p, vs, rfl, hl, hr⟩ := ra.lst
    split at e
    · rename_i he
      cases e
      obtain ⟨w, h1, h2⟩ := atI_reps hr he
      exact ix_list value slice pins s σ H _ _ v u Q I rx ry ⟨p, vs, _, w, rfl, rfl, hl, h1, q _ _ (Same.refl H) h2⟩ hs
    · cases e
  · have eb := rb.int; subst eb
    obtain ⟨p, vs, rfl, hl, hr⟩ := ra.tup
    split at e
    · rename_i he
      cases e
      obtain ⟨w, h1, h2⟩ := atI_reps hr he
      exact ix_tup value slice pins s σ H _ _ v u Q I rx ry ⟨p, vs, _, w, rfl, rfl, hl.sq, h1, q _ _ (Same.refl H) h2⟩ hs
    · cases e
  · have eb := rb.int; subst eb
    have ea := ra.str; subst ea
    split at e
    · rename_i hz'
      split at e
      · rename_i he
        cases e
        exact ix_str value slice pins s σ H _ _ v u Q I rx ry ⟨_, _, _, rfl, rfl, hz', he, q _ _ (Same.refl H) (.str _)⟩ hs
      · cases e
    · cases e
  · split at e
    · rename_i kvs k hk
      unfold keysOk at hk
      rw [Bool.or_eq_true] at hk
      rcases hk with hk | hk
      rotate_left
      · unfold keysT at hk
        rw [Bool.and_eq_true] at hk
        obtain ⟨ks, l, rfl, hl, hdp⟩ := tupKey_of hk.1
        obtain ⟨a', us, rfl, rk, ph⟩ := dict_valT (O := O) I ra hk.2
        obtain rfl : v = Value.ref a' := rx
        obtain ⟨q0, rfl, kq⟩ := rb.tupv
        obtain rfl : u = Value.ref q0 := ry
        have ki : (nestedKind X.prog X.w).is s.heap l q0 := ⟨key_is I kq hl rfl, hdp⟩
        rcases RepT.val hl rk with ⟨d, v', u', q', g1, g2, g3, g4⟩ | ⟨g1, g2⟩
        · rw [g1] at e
          cases e
          exact tail_any (dictH I rk ph).typeIs slot_dict_getitem.lookup (wpAny_getItem_heap (room_T hu) ki (dictH I rk ph) g2 ⟨v', H, I.tok _, g3, q _ _ (Same.refl H) g4⟩) hs
        · rw [g1] at e; cases e
      obtain ⟨l, hl⟩ := leafy_of (keysL_leafy hk).1
      obtain ⟨a', us, rfl, rk, ph0⟩ := dict_val (O := O) I ra (keysL_leafy hk).2
      obtain ⟨hz', hd, dd⟩ := rk.phK hk ph0
      obtain rfl : v = Value.ref a' := rx
      have ki := leaf_is (P := X.prog) (w := X.w) hl not_bl (leaf_rep hl rb) ry
      rcases RepK.val hl rk with ⟨d, v', u', g1, g2, g3, g4⟩ | ⟨g1, g2⟩
      · rw [g1] at e
        cases e
        exact tail_any dd.typeIs slot_dict_getitem.lookup (wpAny_getItem_of ki dd.mapOf g2 ⟨v', H, I.tok _, g3, q _ _ (Same.refl H) g4⟩) hs
      · rw [g1] at e; cases e
    · cases e
  · cases e
/-! ### slices -/
def rSlD (c : Cfg) : V → Option Int → Option Int → Hp → VK → Prop := fun x lo hi H Q => ∃ (Z : Addr → Prop) (H0 : Hp) (a r : Fl × D), (∀ a, Z a → H0 a ≠ none) ∧ Same H0 H ∧ RepF c Z H0 H a x ∧ slD a.2 lo hi = .ok r ∧ ∀ v H', Same H H' → RepF c Z H0 H' r v → Q v H'
theorem reps_cut {c : Cfg} {Z : Addr → Prop} {H : Hp} {ds : List D} {vs : List V} (r : Reps c Z H ds vs) (lo hi : Option Int) : Reps c Z H (cutD ds lo hi) (cutV vs lo hi) := by
  unfold cutD cutV
  rw [r.length]
  exact (r.drop _).take _
theorem sl_data : SlR X (rSlD (cfg X O)) := by
  intro pins s σ H x v vl vu lo hi sl Q I rx hs pl pu h
  obtain ⟨Z, H0, ⟨fa, a⟩, r, hz, s0, ra, e, q⟩ := h
  change slD a lo hi = Rs.ok r at e
  unfold slD at e
  split at e
  · cases e
    obtain ⟨p, vs, rfl, hl, hr⟩ := ra.lst
    refine sl_list pins s σ H _ v vl vu lo hi sl Q I rx hs pl pu ⟨p, vs, rfl, hl, fun p np => ?_⟩
    obtain ⟨k1, k2⟩ := newL s0 np (reps_cut hr lo hi)
    exact q _ _ k1 k2
  · have ea := ra.str; subst ea
    split at e
    · rename_i hz'
      cases e
      exact sl_str pins s σ H _ v vl vu lo hi sl Q I rx hs pl pu ⟨_, rfl, hz', q _ _ (Same.refl H) RepF.mkS⟩
    · cases e
  · split at e
    · cases e
    · rename_i hn
      cases e
      obtain ⟨p, vs, rfl, hl, hr⟩ := ra.tup
      rw [hr.length] at hn
      refine sl_tup pins s σ H _ v vl vu lo hi sl Q I rx hs pl pu ⟨p, vs, rfl, hl.sq, hn, fun p np => ?_⟩
      obtain ⟨k1, k2⟩ := newT (c := cfg X O) hz s0 np (reps_cut hr lo hi)
      exact q _ _ k1 k2
  · cases e
end
/-! ### built-in functions -/
theorem reps_intsOf {c : Cfg} {Z : Addr → Prop} {H : Hp} : ∀ {ds : List D} {vs : List V} {ns : List Int}, Reps c Z H ds vs → intsOf ds = some ns → vs = ns.map V.int
  | [], _, _, .nil, e => by cases e; rfl
  | d :: ds, _, ns, .cons h t, e => by
    cases d with
    | int i =>
      simp only [intsOf, Option.map_eq_some_iff] at e
      obtain ⟨ms, e1, rfl⟩ := e
      cases h
      rw [reps_intsOf t e1]; rfl
    | _ => simp [intsOf] at e
theorem reps_blsOf {c : Cfg} {Z : Addr → Prop} {H : Hp} : ∀ {ds : List D} {vs : List V} {ns : List Bool}, Reps c Z H ds vs → blsOf ds = some ns → vs = ns.map V.bl
  | [], _, _, .nil, e => by cases e; rfl
  | d :: ds, _, ns, .cons h t, e => by
    cases d with
    | bl i =>
      simp only [blsOf, Option.map_eq_some_iff] at e
      obtain ⟨ms, e1, rfl⟩ := e
      cases h
      rw [reps_blsOf t e1]; rfl
    | _ => simp [blsOf] at e
theorem reps_strsOf {c : Cfg} {Z : Addr → Prop} {H : Hp} : ∀ {ds : List D} {vs : List V} {ns : List (List Nat)}, Reps c Z H ds vs → strsOf ds = some ns → vs = (ns.map fun s => (⟨⟨s⟩⟩ : PySem.Str)).map V.str
  | [], _, _, .nil, e => by cases e; rfl
  | d :: ds, _, ns, .cons h t, e => by
    cases d with
    | str i =>
      simp only [strsOf, Option.map_eq_some_iff] at e
      obtain ⟨ms, e1, rfl⟩ := e
      cases h
      rw [reps_strsOf t e1]; rfl
    | _ => simp [strsOf] at e
theorem foldl_max (l : List Int) : ∀ x : Int, (l.foldl (fun a b => if a < b then b else a) x = x ∨ l.foldl (fun a b => if a < b then b else a) x ∈ l) ∧ x ≤ l.foldl (fun a b => if a < b then b else a) x ∧ ∀ y ∈ l, y ≤ l.foldl (fun a b => if a < b then b else a) x := by
  induction l with
  | nil => intro x; exact ⟨.inl rfl, Int.le_refl _, fun y h => by cases h⟩
  | cons a l ih =>
    intro x
    rw [List.foldl_cons]
    obtain ⟨h1, h2, h3⟩ := ih (if x < a then a else x)
    refine ⟨?_, ?_, fun y hy => ?_⟩
    · rcases h1 with h1 | h1
      · by_cases q : x < a
        · right; rw [h1, if_pos q]; exact List.mem_cons_self
        · left; rw [h1, if_neg q]
      · right; exact List.mem_cons_of_mem _ h1
    · by_cases q : x < a
      · rw [if_pos q] at h2 ⊢; omega
      · rw [if_neg q] at h2 ⊢; omega
    · rcases List.mem_cons.mp hy with e | hy
      · subst e
        by_cases q : x < y
        · rw [if_pos q] at h2 ⊢; omega
        · rw [if_neg q] at h2 ⊢; omega
      · exact h3 y hy
theorem foldl_min (l : List Int) : ∀ x : Int, (l.foldl (fun a b => if b < a then b else a) x = x ∨ l.foldl (fun a b => if b < a then b else a) x ∈ l) ∧ l.foldl (fun a b => if b < a then b else a) x ≤ x ∧ ∀ y ∈ l, l.foldl (fun a b => if b < a then b else a) x ≤ y := by
  induction l with
  | nil => intro x; exact ⟨.inl rfl, Int.le_refl _, fun y h => by cases h⟩
  | cons a l ih =>
    intro x
    rw [List.foldl_cons]
    obtain ⟨h1, h2, h3⟩ := ih (if a < x then a else x)
    refine ⟨?_, ?_, fun y hy => ?_⟩
    · rcases h1 with h1 | h1
      · by_cases q : a < x
        · right; rw [h1, if_pos q]; exact List.mem_cons_self
        · left; rw [h1, if_neg q]
      · right; exact List.mem_cons_of_mem _ h1
    · by_cases q : a < x
      · rw [if_pos q] at h2 ⊢; omega
      · rw [if_neg q] at h2 ⊢; omega
    · rcases List.mem_cons.mp hy with e | hy
      · subst e
        by_cases q : y < x
        · rw [if_pos q] at h2 ⊢; omega
        · rw [if_neg q] at h2 ⊢; omega
      · exact h3 y hy
theorem maxL_ok {ns : List Int} {m : Int} (h : maxL ns = some m) : m ∈ ns ∧ ∀ y ∈ ns, y ≤ m := by
  cases ns with
  | nil => cases h
  | cons x r =>
    have e : r.foldl (fun a b => if a < b then b else a) x = m := Option.some.inj h
    obtain ⟨h1, h2, h3⟩ := foldl_max r x
    rw [e] at h1 h2 h3
    refine ⟨?_, fun y hy => ?_⟩
    · rcases h1 with h1 | h1
      · rw [h1]; exact List.mem_cons_self
      · exact List.mem_cons_of_mem _ h1
    · rcases List.mem_cons.mp hy with e | hy
      · rw [e]; exact h2
      · exact h3 y hy
theorem minL_ok {ns : List Int} {m : Int} (h : minL ns = some m) : m ∈ ns ∧ ∀ y ∈ ns, m ≤ y := by
  cases ns with
  | nil => cases h
  | cons x r =>
    have e : r.foldl (fun a b => if b < a then b else a) x = m := Option.some.inj h
    obtain ⟨h1, h2, h3⟩ := foldl_min r x
    rw [e] at h1 h2 h3
    refine ⟨?_, fun y hy => ?_⟩
    · rcases h1 with h1 | h1
      · rw [h1]; exact List.mem_cons_self
      · exact List.mem_cons_of_mem _ h1
    · rcases List.mem_cons.mp hy with e | hy
      · rw [e]; exact h2
      · exact h3 y hy
theorem maxL_pos {ns : List Int} {m : Int} (h : maxL ns = some m) : 0 < ns.length := by
  cases ns with
  | nil => cases h
  | cons x r => exact Nat.succ_pos _
theorem minL_pos {ns : List Int} {m : Int} (h : minL ns = some m) : 0 < ns.length := by
  cases ns with
  | nil => cases h
  | cons x r => exact Nat.succ_pos _
section
variable {X : Cx} {O : OpT}
/-- a call of a built-in, told by f of the arguments' data -/
def rBi (c : Cfg) (f : List D → Rs (Fl × D)) : List V → Hp → VK → Prop := fun vs H Q => ∃ (Z : Addr → Prop) (H0 : Hp) (xs : List (Fl × D)) (r : Fl × D), (∀ a, Z a → H0 a ≠ none) ∧ Same H0 H ∧ RepsF c Z H0 H xs vs ∧ f (xs.map (·.2)) = .ok r ∧ ∀ v H', Same H H' → RepF c Z H0 H' r v → Q v H'
/-- what stands for the built-in -/
def bfVal : Bf → Value
  | .len => .builtin "len" | .tuple => .type "tuple" | .list => .type "list" | .max => .builtin "max" | .min => .builtin "min" | .int => .type "int" | .sum => .builtin "sum"
  | .any => .builtin "any" | .all => .builtin "all" | .abs => .builtin "abs" | .divmod => .builtin "divmod"
  | .isBool => .builtin "isinstance" | .isInt => .builtin "isinstance" | .isStr => .builtin "isinstance" | .isTup => .builtin "isinstance" | .isLst => .builtin "isinstance" | .sortedI => .builtin "sorted"
theorem map1 {xs : List (Fl × D)} {d : D} (h : xs.map (·.2) = [d]) : ∃ f, xs = [(f, d)] := by
  cases xs with
  | nil => cases h
  | cons x r =>
    cases r with
    | nil => obtain ⟨f, d'⟩ := x; simp at h; exact ⟨f, by rw [h]⟩
    | cons y r => simp at h
theorem map2 {xs : List (Fl × D)} {d e : D} (h : xs.map (·.2) = [d, e]) : ∃ f g, xs = [(f, d), (g, e)] := by
  cases xs with
  | nil => cases h
  | cons x r =>
    cases r with
    | nil => simp at h
    | cons y r =>
      cases r with
      | nil => obtain ⟨f, d'⟩ := x; obtain ⟨g, e'⟩ := y; simp at h; exact ⟨f, g, by rw [h.1, h.2]⟩
      | cons z r => simp at h
theorem RepsF.one {c : Cfg} {Z : Addr → Prop} {H H' : Hp} {x : Fl × D} {vs : List V} (h : RepsF c Z H H' [x] vs) : ∃ v, vs = [v] ∧ RepF c Z H H' x v := by
  cases h with
  | cons h t => cases t; exact ⟨_, rfl, h⟩
theorem RepsF.two {c : Cfg} {Z : Addr → Prop} {H H' : Hp} {x y : Fl × D} {vs : List V} (h : RepsF c Z H H' [x, y] vs) : ∃ v w, vs = [v, w] ∧ RepF c Z H H' x v ∧ RepF c Z H H' y w := by
  cases h with
  | cons h t => cases t with | cons h2 t2 => cases t2; exact ⟨_, _, rfl, h, h2⟩
theorem call_bi (f : Bf) (hc : X.calm = true) (hn : bfVal f ≠ .builtin "isinstance") : CallR X (bfVal f) (rBi (cfg X O) (biD f)) := by
  intro pins s σ H vs us Q I r h
  obtain ⟨Z, H0, xs, res, hz, s0, rs, e, q⟩ := h
  generalize hm : xs.map (·.2) = ds at e
  unfold biD at e
  split at e
  · obtain ⟨g, rfl⟩ := map1 hm
    obtain ⟨v, rfl, rv⟩ := rs.one
    have ev := rv.str; subst ev
    split at e
    · rename_i hl
      cases e
      exact call_len_str pins s σ H _ us Q I r ⟨_, rfl, hl, q _ _ (Same.refl H) RepF.mkI⟩
    · cases e
  · obtain ⟨g, rfl⟩ := map1 hm
    obtain ⟨v, rfl, rv⟩ := rs.one
    obtain ⟨p, ws, rfl, hl, hr⟩ := rv.lst
    cases e
    exact call_len_seq pins s σ H _ us Q I r ⟨p, ws, rfl, .inl hl, by rw [← hr.length]; exact q _ _ (Same.refl H) RepF.mkI⟩
  · obtain ⟨g, rfl⟩ := map1 hm
    obtain ⟨v, rfl, rv⟩ := rs.one
    obtain ⟨p, ws, rfl, hl, hr⟩ := rv.tup
    cases e
    exact call_len_seq pins s σ H _ us Q I r ⟨p, ws, rfl, .inr hl.sq, by rw [← hr.length]; exact q _ _ (Same.refl H) RepF.mkI⟩
  · obtain ⟨g, rfl⟩ := map1 hm
    obtain ⟨v, rfl, rv⟩ := rs.one
    split at e
    · rename_i kvs hk
      cases e
      rw [Bool.or_eq_true] at hk
      rcases hk with hk | hk
      rotate_left
      · obtain ⟨a', us', rfl, rk, ph⟩ := dict_valT (O := O) I rv hk
        obtain ⟨u, rfl, ru⟩ := r.one
        obtain rfl : u = Value.ref a' := ru
        refine call_len_dictH ph.2.1 (dictH I rk ph) (by have := ph.1; rw [sizeLine_eq] at this; omega) ?_
        have q' := q (.int kvs.length) H (Same.refl H) RepF.mkI
        rw [rk.length] at q'
        exact ⟨.int us'.length, H, I.tok _, ⟨_, rfl⟩, q'⟩
      obtain ⟨a', us', rfl, rk, hz', hd, dd⟩ := dict_val (O := O) I rv hk
      obtain ⟨u, rfl, ru⟩ := r.one
      obtain rfl : u = Value.ref a' := ru
      refine call_len_dict hd dd (by rw [sizeLine_eq] at hz'; omega) ?_
      have q' := q (.int kvs.length) H (Same.refl H) RepF.mkI
      rw [rk.length] at q'
      exact ⟨.int us'.length, H, I.tok _, ⟨_, rfl⟩, q'⟩
    · cases e
  · obtain ⟨g, rfl⟩ := map1 hm
    obtain ⟨v, rfl, rv⟩ := rs.one
    obtain ⟨p, ws, rfl, hl, hr⟩ := rv.lst
    cases e
    refine call_tuple_of pins s σ H _ us Q I r ⟨p, ws, rfl, .inl ⟨hl, fun l nl => ?_⟩⟩
    obtain ⟨k1, k2⟩ := newT hz s0 nl hr
    exact q _ _ k1 k2
  · obtain ⟨g, rfl⟩ := map1 hm
    obtain ⟨v, rfl, rv⟩ := rs.one
    obtain ⟨p, ws, rfl, hl, hr⟩ := rv.lst
    cases e
    refine call_list_of pins s σ H _ us Q I r ⟨p, ws, rfl, .inl hl, fun l nl => ?_⟩
    obtain ⟨k1, k2⟩ := newL s0 nl hr
    exact q _ _ k1 k2
  · obtain ⟨g, rfl⟩ := map1 hm
    obtain ⟨v, rfl, rv⟩ := rs.one
    obtain ⟨p, ws, rfl, hl, hr⟩ := rv.tup
    cases e
    refine call_list_of pins s σ H _ us Q I r ⟨p, ws, rfl, .inr hl.sq, fun l nl => ?_⟩
    obtain ⟨k1, k2⟩ := newL s0 nl hr
    exact q _ _ k1 k2
  · obtain ⟨g, rfl⟩ := map1 hm
    obtain ⟨v, rfl, rv⟩ := rs.one
    obtain ⟨p, ws, rfl, hl, hr⟩ := rv.lst
    split at e
    · rename_i ns hns
      split at e
      · rename_i m hm'
        cases e
        have ew := reps_intsOf hr hns; subst ew
        obtain ⟨k1, k2⟩ := maxL_ok hm'
        refine cr_max hc pins s σ H _ us Q I r ⟨p, ns, rfl, hl, maxL_pos hm', fun m' h1 h2 => ?_⟩
        have em : m' = m := by have := k2 m' h1; have := h2 m k1; omega
        subst em
        exact q _ _ (Same.refl H) RepF.mkI
      · cases e
    · cases e
  · obtain ⟨g, rfl⟩ := map1 hm
    obtain ⟨v, rfl, rv⟩ := rs.one
    obtain ⟨p, ws, rfl, hl, hr⟩ := rv.lst
    split at e
    · rename_i ns hns
      split at e
      · rename_i m hm'
        cases e
        have ew := reps_intsOf hr hns; subst ew
        obtain ⟨k1, k2⟩ := minL_ok hm'
        refine cr_min hc pins s σ H _ us Q I r ⟨p, ns, rfl, hl, minL_pos hm', fun m' h1 h2 => ?_⟩
        have em : m' = m := by have := k2 m' h1; have := h2 m k1; omega
        subst em
        exact q _ _ (Same.refl H) RepF.mkI
      · cases e
    · cases e
  · obtain ⟨g, g2, rfl⟩ := map2 hm
    obtain ⟨v, w, rfl, rv, rw'⟩ := rs.two
    have e1 := rv.int; have e2 := rw'.int; subst e1 e2
    cases e
    exact call_max2 hc pins s σ H _ us Q I r ⟨_, _, rfl, q _ _ (Same.refl H) RepF.mkI⟩
  · obtain ⟨g, g2, rfl⟩ := map2 hm
    obtain ⟨v, w, rfl, rv, rw'⟩ := rs.two
    have e1 := rv.int; have e2 := rw'.int; subst e1 e2
    cases e
    exact call_min2 hc pins s σ H _ us Q I r ⟨_, _, rfl, q _ _ (Same.refl H) RepF.mkI⟩
  · obtain ⟨g, rfl⟩ := map1 hm
    obtain ⟨v, rfl, rv⟩ := rs.one
    have e1 := rv.int; subst e1
    cases e
    exact call_int1 pins s σ H _ us Q I r (.inl ⟨_, rfl, q _ _ (Same.refl H) RepF.mkI⟩)
  · obtain ⟨g, rfl⟩ := map1 hm
    obtain ⟨v, rfl, rv⟩ := rs.one
    have e1 := rv.bl; subst e1
    cases e
    exact call_int1 pins s σ H _ us Q I r (.inr ⟨_, rfl, q _ _ (Same.refl H) RepF.mkI⟩)
  · obtain ⟨g, rfl⟩ := map1 hm
    obtain ⟨v, rfl, rv⟩ := rs.one
    obtain ⟨p, ws, rfl, hl, hr⟩ := rv.lst
    split at e
    · rename_i ns hns
      cases e
      have ew := reps_intsOf hr hns; subst ew
      exact cr_sum hc pins s σ H _ us Q I r ⟨p, ns, rfl, hl, q _ _ (Same.refl H) RepF.mkI⟩
    · cases e
  · obtain ⟨g, rfl⟩ := map1 hm
    obtain ⟨v, rfl, rv⟩ := rs.one
    obtain ⟨p, ws, rfl, hl, hr⟩ := rv.lst
    split at e
    · rename_i ns hns
      cases e
      have ew := reps_blsOf hr hns; subst ew
      exact cr_any hc pins s σ H _ us Q I r ⟨p, ns, rfl, hl, q _ _ (Same.refl H) RepF.mkB⟩
    · cases e
  · obtain ⟨g, rfl⟩ := map1 hm
    obtain ⟨v, rfl, rv⟩ := rs.one
    obtain ⟨p, ws, rfl, hl, hr⟩ := rv.lst
    split at e
    · rename_i ns hns
      cases e
      have ew := reps_blsOf hr hns; subst ew
      exact cr_all hc pins s σ H _ us Q I r ⟨p, ns, rfl, hl, q _ _ (Same.refl H) RepF.mkB⟩
    · cases e
  · obtain ⟨g, rfl⟩ := map1 hm
    obtain ⟨v, rfl, rv⟩ := rs.one
    have e1 := rv.int; subst e1
    cases e
    exact call_abs pins s σ H _ us Q I r ⟨_, rfl, q _ _ (Same.refl H) RepF.mkI⟩
  · obtain ⟨g, g2, rfl⟩ := map2 hm
    obtain ⟨v, w, rfl, rv, rw'⟩ := rs.two
    have e1 := rv.int; have e2 := rw'.int; subst e1 e2
    split at e
    · rename_i hd
      cases e
      refine call_divmod pins s σ H _ us Q I r ⟨_, _, rfl, hd, fun p np => ?_⟩
      obtain ⟨k1, k2⟩ := newT (c := cfg X O) (ds := [.int _, .int _]) (vs := [.int _, .int _]) hz s0 np (.cons (.int _) (.cons (.int _) .nil))
      exact q _ _ k1 k2
    · cases e
  · exact absurd rfl hn
  · exact absurd rfl hn
  · exact absurd rfl hn
  · exact absurd rfl hn
  · exact absurd rfl hn
  · cases e
/-! ### isinstance of data -/
def bfType : Bf → String
  | .isBool => "bool" | .isInt => "int" | .isStr => "str" | .isTup => "tuple" | .isLst => "list" | _ => ""
/-- the type of data -/
def tyD : D → Option String
  | .non => some "NoneType" | .bl _ => some "bool" | .int _ => some "int" | .str _ => some "str" | .tup _ => some "tuple" | .lst _ => some "list" | _ => none
theorem SqT.tyx {K : PySem.W.Frag} {H : Hp} {a : Addr} {vs : List V} (h : SqT K H a vs) : TyX K H (.ref a) (.type "tuple") := by
  rcases h with (h | ⟨o, h⟩) | ⟨o, its, n, h1, h2, _⟩
  · exact .base (.tup h)
  · exact .fTuple h
  · exact .kTuple h1 h2
theorem SqL.tyx {K : PySem.W.Frag} {H : Hp} {a : Addr} {vs : List V} (h : SqL K H a vs) : TyX K H (.ref a) (.type "list") := by
  rcases h with (h | ⟨o, h⟩) | ⟨o, its, n, h1, h2, _⟩
  · exact .base (.lst h)
  · exact .base (.frz h)
  · exact .kList h1 h2
theorem RepF.tyx {c : Cfg} {Z : Addr → Prop} {H0 H : Hp} {f : Fl} {d : D} {v : V} {T : String} (h : RepF c Z H0 H (f, d) v) (e : tyD d = some T) : TyX c.K H v (.type T) := by
  cases d with
  | non => cases e; rw [h.non]; exact .base .non
  | bl b => cases e; rw [h.bl]; exact .base (.bl b)
  | int b => cases e; rw [h.int]; exact .base (.int b)
  | str b => cases e; rw [h.str]; exact .base (.str _)
  | tup b => cases e; obtain ⟨a, vs, rfl, t, _⟩ := h.tup; exact SqT.tyx t.sq
  | lst b => cases e; obtain ⟨a, vs, rfl, t, _⟩ := h.lst; exact SqL.tyx t
  | dct b => cases e
  | opq n b => cases e
def isTy : Bf → Bool
  | .isBool => true | .isInt => true | .isStr => true | .isTup => true | .isLst => true | _ => false
theorem call_is {K : PySem.W.Frag} {c : Cfg} (f : Bf) (hf : isTy f = true) {Z : Addr → Prop} {H0 H : Hp} {x : Fl × D} {v : V} {r : Fl × D} {Q : VK} (rv : RepF c Z H0 H x v) (e : biD f [x.2] = .ok r) (q : ∀ v H', Same H H' → RepF c Z H0 H' r v → Q v H') :
    rIsi c.K [v, .ty (bfType f)] H Q := by
  obtain ⟨g, d⟩ := x
  have mk : ∀ T b, tyD d = some T → PySem.W.kitOne c.K (.type T) (.type (bfType f)) = some b → r = (.val, .bl b) → rIsi c.K [v, .ty (bfType f)] H Q := fun T b e1 e2 e3 => by
    subst e3
    exact ⟨v, .ty (bfType f), .type T, .type (bfType f), b, rfl, .ty _, rv.tyx e1, e2, q _ _ (Same.refl H) RepF.mkB⟩
  cases f <;> first | (exact absurd hf Bool.false_ne_true) | skip
  all_goals cases d <;> first | (cases e; done) | (exact mk _ _ rfl (kit_ty (by decide +kernel)) (Rs.ok.inj e).symm)
end
end RA
/-! RA5: that an expression of the text is one of the small language, and what it comes to. -/
namespace RA
open PySem PySem.Spec PyProof.Rows L2
/-- what stands fast for a def: the names of its slots, the defs' names by number, the defs that may be called, the constants of the module, the built-ins that are not shadowed -/
structure Stat where
  N : List Str
  nm : Nat → Str
  us : List Nat
  gs : List Nat
  bs : List Str
  F : FT
  k : Nat
  xts : List XT := []
  yts : List YT := []
  trs : List (Str × List Nat × List Nat) := []
def isVis (sc : Scope) (x : Str) : Bool := match sc.names.lookup x with
  | some .local => true | some .cell => true | some .free => true | _ => false
def isGl (sc : Scope) (x : Str) : Bool := match sc.names.lookup x with
  | some .globalImplicit => true | _ => false
def plainN (x : Str) : Bool := !(x == ("__debug__" : Str)) && !(x == ("__classdict__" : Str)) && !decide (x = ("__name__" : Str))
def okV (S : Stat) (sc : Scope) (i : Nat) (x : Str) : Bool := decide (S.N[i]? = some x) && isVis sc x && plainN x
def okK : D → Const → Bool
  | .non, .none => true
  | .bl b, .bool c => b == c
  | .int i, .int j => decide (i = j)
  | .str s, .str x => decide (s = x.cps.toList)
  | _, _ => false
def bopOk : Bop → Operator → Bool := fun a b => decide (bopIs a = b)
def copOk : Cop → CmpOp → Bool := fun a b => decide (copIs a = b)
def bfName : Bf → Str
  | .len => "len" | .tuple => "tuple" | .list => "list" | .max => "max" | .min => "min" | .int => "int" | .sum => "sum" | .any => "any" | .all => "all" | .abs => "abs" | .divmod => "divmod"
  | .isBool => "isinstance" | .isInt => "isinstance" | .isStr => "isinstance" | .isTup => "isinstance" | .isLst => "isinstance" | .sortedI => "sorted"
def tyName : Bf → Str
  | .isBool => "bool" | .isInt => "int" | .isStr => "str" | .isTup => "tuple" | .isLst => "list" | _ => ""
/-- a built-in's name, not shadowed -/
def okB (S : Stat) (sc : Scope) (x y : Str) : Bool := decide (x = y) && isGl sc y && S.bs.contains y && plainN y
def meName : Mf → Str
  | .find => "find" | .join => "join"
/-- a name of the block's own, plain or a cell: it may be stored -/
def stF (sc : Scope) (x : Str) : Bool := decide (sc.names.lookup x = some .local) || decide (sc.names.lookup x = some .cell)
def okTs (S : Stat) (sl : Str → Bool) : List Nat → List Expr → Bool
  | [], [] => true
  | i :: is, .Name x _ :: es => decide (S.N[i]? = some x) && sl x && okTs S sl is es
  | _, _ => false
def okT (S : Stat) (sl : Str → Bool) : Tg → Expr → Bool
  | .one i, .Name x _ => decide (S.N[i]? = some x) && sl x
  | .tup is, .Tuple es _ _ => okTs S sl is es && decide (is.length = es.length)
  | _, _ => false
/-- the names that a comprehension stores, with their slots -/
def ownNames (S : Stat) : Tg → List (Str × Nat)
  | .one i => [((S.N[i]?).getD "", i)]
  | .tup is => is.map fun i => ((S.N[i]?).getD "", i)
/-- what may stand as a test -/
def isTst : IE → Bool
  | .v _ => true | .gl _ => true | .cmp _ _ _ => true | .call _ _ => true | .bi _ _ => true | .ix _ _ => true
  | .and_ x y => isTst x && isTst y
  | .or_ x y => isTst x && isTst y
  | .not_ x => isTst x
  | .xt _ _ => true
  | _ => false
def callN : Expr → Option (Str × List Expr)
  | .Call (.Name y _) es [] _ => some (y, es)
  | _ => none
theorem callN_of {e : Expr} {y : Str} {es : List Expr} (h : callN e = some (y, es)) : ∃ p pos, e = .Call (.Name y p) es [] pos := by
  unfold callN at h
  split at h
  · cases h; exact ⟨_, _, rfl⟩
  · cases h
def isTup : Expr → Bool
  | .Tuple _ _ _ => true
  | _ => false
theorem isTup_of {e : Expr} (h : isTup e = true) : ∃ es k p, e = .Tuple es k p := by
  cases e <;> first | exact ⟨_, _, _, rfl⟩ | cases h
def okTy2 (S : Stat) (sc : Scope) (f : Bf) : List Expr → Bool
  | [_, .Name y _] => okB S sc (tyName f) y
  | _ => false
def isYes : IE → Bool
  | .k (.bl true) => true
  | _ => false
def headE : List Expr → Expr
  | c :: _ => c
  | [] => .Constant .none 0 ⟨0, 0, 0, 0⟩
/-- no call of a name without arguments -/
def notC0 : Expr → Bool
  | .Call (.Name _ _) [] [] _ => false | _ => true
/-- a name or a constant -/
def isNmE : Expr → Bool
  | .Name _ _ => true | .Constant _ _ _ => true | _ => false
/-- where a further expression may stand -/
def isXt : Expr → Bool
  | .Call _ _ _ _ => true | .Attribute _ _ _ => true | .BinOp _ _ _ _ => true | _ => false
/-- the parts of a further expression -/
def xtDec : XT → Stat → Scope → Expr → Option (List Expr)
  | .isc y _ _, S, sc, .Call (.Name z _) [a, .Name y' _] [] _ => if (okB S sc "isinstance" z && decide (y' = y) && isGl sc y && plainN y) = true then some [a] else none
  | .cat, _, _, .BinOp l .Add r _ => some [l, r]
  | .mk _ x, _, sc, .Call (.Name y _) [] [] _ => if (decide (x = y) && isGl sc y && plainN y) = true then some [] else none
  | .mth m _, _, _, .Call (.Attribute o y apos) es [] cpos => if (decide (m = y) && (apos.endLine == cpos.line) && notC0 o && es.all isNmE && decide (es.length < 30)) = true then some (o :: es) else none
  | .zl3, S, sc, .Call (.Name y _) [.Call (.Name z _) [a, b, c] [] _] [] _ => if (okB S sc "list" y && okB S sc "zip" z) = true then some [a, b, c] else none
  | .ctu, _, _, .BinOp l .Add r _ => some [l, r]
  | .lmu, _, _, .BinOp l .Mult r _ => some [l, r]
  | .stw, _, _, .Call (.Attribute o m apos) [a] [] cpos => if (decide (m = "startswith") && (apos.endLine == cpos.line) && notC0 o && isNmE a) = true then some [o, a] else none
  | .enw, _, _, .Call (.Attribute o m apos) [a] [] cpos => if (decide (m = "endswith") && (apos.endLine == cpos.line) && notC0 o && isNmE a) = true then some [o, a] else none
  | .cot, _, _, .Call (.Attribute o m apos) [a] [] cpos => if (decide (m = "count") && (apos.endLine == cpos.line) && notC0 o && isNmE a) = true then some [o, a] else none
  | .jrv, S, sc, .Call (.Attribute (.Constant (.str t) _ _) x apos) [.Call (.Name y _) [a] [] _] [] cpos => if (decide ("join" = x) && decide (t = "") && (apos.endLine == cpos.line) && okB S sc "reversed" y) = true then some [a] else none
  | .rgl, S, sc, .Call (.Name y _) [.Call (.Name z _) [a] [] _] [] _ => if (okB S sc "list" y && okB S sc "range" z) = true then some [a] else none
  | .rgt, S, sc, .Call (.Name y _) [.Call (.Name z _) [a] [] _] [] _ => if (okB S sc "tuple" y && okB S sc "range" z) = true then some [a] else none
  | .dvl, S, sc, .Call (.Name y _) [.Call (.Attribute o z apos) [] [] cpos] [] _ => if (okB S sc "list" y && decide (z = "values") && (apos.endLine == cpos.line) && notC0 o) = true then some [o] else none
  | .dkl, S, sc, .Call (.Name y _) [.Name x p] [] _ => if okB S sc "list" y = true then some [.Name x p] else none
  | .cal _, S, sc, .Call (.Name x p) es [] _ => if (isVis sc x && plainN x && !es.isEmpty) = true then some (.Name x p :: es) else none
  | .fld _ _ f, _, _, .Attribute o f' _ => if (decide (f = f') && notC0 o) = true then some [o] else none
  | _, _, _, _ => none
/-- the parts of a further walk -/
def wkDec : WK → Stat → Scope → Expr → Expr → Option (List Expr)
  | .itm, _, _, tg, .Call (.Attribute o m apos) [] [] cpos => if (isTup tg && decide (m = "items") && (apos.endLine == cpos.line) && notC0 o) = true then some [o] else none
  | _, _, _, _, _ => none
mutual
def okE (S : Stat) : IE → Scope → Expr → Bool
  | .v i, sc, .Name x _ => okV S sc i x
  | .pk i, sc, .Name x _ => okV S sc i x
  | .pv i, sc, .Name x _ => okV S sc i x
  | .k d, _, .Constant c _ _ => okK d c
  | .gl n, sc, .Name x _ => decide (S.nm n = x) && S.gs.contains n && isGl sc x && plainN x
  | .b op x y, sc, .BinOp l o r _ => bopOk op o && okE S x sc l && okE S y sc r
  | .neg x, sc, .UnaryOp .USub e _ => okE S x sc e
  | .cmp op x y, sc, .Compare l [o] [r] _ => copOk op o && okE S x sc l && okE S y sc r
  | .and_ x y, sc, .BoolOp .And (a :: b :: rest) p => okE S x sc a && (if rest.isEmpty = true then okE S y sc b else okE S y sc (.BoolOp .And (b :: rest) p))
  | .or_ x y, sc, .BoolOp .Or (a :: b :: rest) p => okE S x sc a && (if rest.isEmpty = true then okE S y sc b else okE S y sc (.BoolOp .Or (b :: rest) p))
  | .not_ x, sc, .UnaryOp .Not e _ => okE S x sc e
  | .ife t x y, sc, .IfExp t' x' y' _ => isTst t && okE S t sc t' && okE S x sc x' && okE S y sc y'
  | .tup as, sc, .Tuple es _ _ => okA S as sc es
  | .lst as, sc, .List es _ => okA S as sc es
  | .dct .nil .nil, _, .Dict [] [] _ => true
  | .dct (.cons k .nil) (.cons v .nil), sc, .Dict [some kx] [vx] _ => okE S k sc kx && okE S v sc vx
  | .ix x i, sc, .Subscript o e _ => okE S x sc o && okE S i sc e
  | .rv x, sc, .Subscript o (.Slice none none (some (.UnaryOp .USub (.Constant (.int j) _ _) _)) _) _ => decide (j = 1) && okE S x sc o
  | .sl x lo hi, sc, .Subscript o (.Slice l h none _) _ => okE S x sc o && (if l.isNone = true then isOut lo else !isOut lo && okE S lo sc (l.getD (headE []))) && (if h.isNone = true then isOut hi else !isOut hi && okE S hi sc (h.getD (headE [])))
  | .lset x, sc, .Call (.Name y _) [a] [] _ => (match callN a with | some (z, [b]) => okB S sc "len" y && okB S sc "set" z && okE S x sc b | _ => false)
  | .lix x y, sc, .Call (.Attribute e m apos) [a] [] cpos => decide (m = "index") && (apos.endLine == cpos.line) && okE S x sc e && okE S y sc a && notC0 e
  | .bi f as, sc, .Call (.Name x _) es [] _ => okB S sc (bfName f) x && (if isTy f = true then okA S as sc (es.take 1) && okTy2 S sc f es else okA S as sc es && !es.isEmpty)
  | .me m o as, sc, .Call (.Attribute e x apos) es [] cpos => decide (meName m = x) && (apos.endLine == cpos.line) && okE S o sc e && okA S as sc es && decide (es.length = 1) && notC0 e
  | .call n as, sc, .Call (.Name x _) es [] _ => decide (S.nm n = x) && S.us.contains n && isGl sc x && plainN x && okA S as sc es && !es.isEmpty
  | .comp tg it t e, sc, .ListComp elt [⟨tg', iter, ifs, k⟩] scope _ =>
      decide (k = 0) && blkC S.N sc scope (ownNames S tg) && okT S (stF scope) tg tg' && okI S it sc tg' iter && okE S e (relS scope sc) elt &&
        ((ifs.isEmpty && isYes t) || (decide (ifs.length = 1) && isTst t && okE S t (relS scope sc) (headE ifs)))
  | .xt t as, sc, e => S.xts.contains t && isXt e && (match xtDec t S sc e with | some es => okA S as sc es | none => false)
  | _, _, _ => false
termination_by structural x => x
def okA (S : Stat) : IEs → Scope → List Expr → Bool
  | .nil, _, [] => true
  | .cons x as, sc, e :: es => okE S x sc e && okA S as sc es
  | _, _, _ => false
termination_by structural x => x
def okI (S : Stat) : II → Scope → Expr → Expr → Bool
  | .ex x, sc, _, e => okE S x sc e
  | .rng1 x, sc, _, e => (match callN e with | some (y, [a]) => okB S sc "range" y && okE S x sc a | _ => false)
  | .rng2 x z, sc, _, e => (match callN e with | some (y, [a, b]) => okB S sc "range" y && okE S x sc a && okE S z sc b | _ => false)
  | .zip2 x z, sc, tg, e => (match callN e with | some (y, [a, b]) => isTup tg && okB S sc "zip" y && okE S x sc a && okE S z sc b | _ => false)
  | .rev x, sc, _, e => (match callN e with | some (y, [a]) => okB S sc "reversed" y && okE S x sc a | _ => false)
  | .xi w as, sc, tg, e => S.xts.contains (.wk w) && (match wkDec w S sc tg e with | some es => okA S as sc es | none => false)
termination_by structural x => x
end
end RA
/-! RA6: the expressions: what stands in the text comes to what the small language says. -/
namespace RA
open PySem PySem.Spec PyProof.Rows L2
variable [Tabs]
/-! ### promises -/
/-- what is handed back: an own new list or dict (o), or a thing -/
def RetF (c : Cfg) (B : Addr → Prop) (H H' : Hp) (o : Bool) (d : D) (v : V) : Prop := RepF c B H H' (if o = true then Fl.own else Fl.val, d) v
/-- a def's promise by its mirror m -/
def spOf (c : Cfg) (m : List D → Rs (Bool × D)) : Sp := fun vs H Q E => ∃ (B : Addr → Prop) (ds : List D), (∀ a, B a → H a ≠ none) ∧ TabsOk H ∧ Reps c B H ds vs ∧ match m ds with
  | .no => False
  | .ok (o, d) => ∀ v H', Same H H' → RetF c B H H' o d v → Q v H'
  | .ex x fs => ∀ cls dd H', Same H H' → ExcAt c B H' x fs cls dd → E cls dd H'
def FOk (c : Cfg) (nm : Nat → Str) (k n : Nat) (m : List D → Rs (Bool × D)) : Prop :=
  ∃ (f : Addr) (fd : FuncData) (ps : List Str), c.mg (nm n) = some (.ref f) ∧ PySem.W.keepIn c.K (.ref f) = true ∧ Binds c.K fd ps [] ∧ FnOk c.P c.w c.K c.mg c.base (L2.CX c.P c.w) k f fd ps (spOf c m)
theorem FOk.mono {c : Cfg} {nm : Nat → Str} {j k n : Nat} {m : List D → Rs (Bool × D)} (h : FOk c nm j n m) (e : j ≤ k) : FOk c nm k n m := by
  obtain ⟨f, fd, ps, h1, h2, h3, h4⟩ := h
  exact ⟨f, fd, ps, h1, h2, h3, h4.mono e⟩
def GlOk (c : Cfg) (nm : Nat → Str) (n : Nat) (r : Rs (Bool × D)) : Prop := ∃ (o : Bool) (d : D) (v : V) (u : Value), r = .ok (o, d) ∧ c.mg (nm n) = some u ∧ RelV v u ∧ ∀ B H, Rep c B H d v
structure CtxB (S : Stat) (X : Cx) (O : OpT) (W : WX) (sc : Scope) : Prop where
  N : X.N = S.N
  nd : X.N.Nodup
  kd : sc.kind = .function
  sc : X.env.scope = sc
  calm : X.calm = true
  room : Room S.k X.A
  tk : Takes X W
  bs : ∀ x, S.bs.contains x = true → X.mg x = none
  fs : ∀ n, S.us.contains n = true → FOk (cfg X O) S.nm S.k n (S.F n)
  gs : ∀ n, S.gs.contains n = true → GlOk (cfg X O) S.nm n (S.F n [])
theorem vis_of {sc : Scope} {x : Str} (h : isVis sc x = true) : Vis sc x := by
  unfold isVis at h
  unfold Vis
  split at h
  · rename_i e; exact .inl e
  · rename_i e; exact .inr (.inl e)
  · rename_i e; exact .inr (.inr e)
  · cases h
theorem gl_of {sc : Scope} {x : Str} (h : isGl sc x = true) : sc.names.lookup x = some .globalImplicit := by
  unfold isGl at h
  split at h
  · assumption
  · cases h
theorem plainN_of {x : Str} (h : plainN x = true) : (x == ("__debug__" : Str)) = false ∧ (x == ("__classdict__" : Str)) = false ∧ x ≠ "__name__" := by
  unfold plainN at h
  simp only [Bool.and_eq_true, Bool.not_eq_true', decide_eq_false_iff_not] at h
  exact ⟨h.1.1, h.1.2, h.2⟩
section
variable {S : Stat} {X : Cx} {O : OpT} {W : WX} {sc : Scope} {B : Addr → Prop} {G : Ev}
theorem CtxB.gl (C : CtxB S X O W sc) {x : Str} (h : isGl sc x = true) : Gl X x := by
  show X.env.scope.names.lookup x = _
  rw [C.sc]; exact gl_of h
theorem CtxB.vis (C : CtxB S X O W sc) {x : Str} (h : isVis sc x = true) : Vis X.env.scope x := by
  rw [C.sc]; exact vis_of h
/-- a name -/
theorem ok_v (C : CtxB S X O W sc) {i : Nat} {x : Str} {p : Pos} (h : okV S sc i x = true) : PE X (.Name x p) (tE (cfg X O) B W G (ev S.F (.v i) G)) := by
  unfold okV at h
  simp only [Bool.and_eq_true, decide_eq_true_eq] at h
  obtain ⟨⟨h1, h2⟩, h3⟩ := h
  obtain ⟨p1, p2, _⟩ := plainN_of h3
  refine (pe_var (i := i) (by rw [C.N]; exact h1) (C.vis h2) p1 p2).weak fun σ H Q ⟨Su, R⟩ => ?_
  simp only [ev] at R
  split at R
  · rename_i d e
    obtain ⟨v, h1, h2⟩ := Su.val i d e
    exact ⟨v, h1, R v H (Same.refl H) h2⟩
  · exact False.elim R
theorem ok_pk (C : CtxB S X O W sc) {i : Nat} {x : Str} {p : Pos} (h : okV S sc i x = true) : PE X (.Name x p) (tE (cfg X O) B W G (ev S.F (.pk i) G)) := by
  unfold okV at h
  simp only [Bool.and_eq_true, decide_eq_true_eq] at h
  obtain ⟨⟨h1, h2⟩, h3⟩ := h
  obtain ⟨p1, p2, _⟩ := plainN_of h3
  refine (pe_var (i := i) (by rw [C.N]; exact h1) (C.vis h2) p1 p2).weak fun σ H Q ⟨Su, R⟩ => ?_
  simp only [ev] at R
  split at R
  · rename_i d e
    obtain ⟨a, h1, h2⟩ := Su.own i d e
    exact ⟨.ref a, h1, R (.ref a) H (Same.refl H) ⟨a, rfl, h2⟩⟩
  · exact False.elim R
theorem ok_pv (C : CtxB S X O W sc) {i : Nat} {x : Str} {p : Pos} (h : okV S sc i x = true) : PE X (.Name x p) (tE (cfg X O) B W G (ev S.F (.pv i) G)) := by
  unfold okV at h
  simp only [Bool.and_eq_true, decide_eq_true_eq] at h
  obtain ⟨⟨h1, h2⟩, h3⟩ := h
  obtain ⟨p1, p2, _⟩ := plainN_of h3
  refine (pe_var (i := i) (by rw [C.N]; exact h1) (C.vis h2) p1 p2).weak fun σ H Q ⟨Su, R⟩ => ?_
  simp only [ev] at R
  split at R
  · rename_i b d e
    cases b with
    | true =>
      obtain ⟨a, h1, h2⟩ := Su.own i d e
      exact ⟨.ref a, h1, R (.ref a) H (Same.refl H) ⟨a, rfl, h2⟩⟩
    | false =>
      obtain ⟨v, h1, h2⟩ := Su.val i d e
      exact ⟨v, h1, R v H (Same.refl H) h2⟩
  · exact False.elim R
theorem ok_k {d : D} {c : Const} {j : Nat} {p : Pos} (h : okK d c = true) : PE X (.Constant c j p) (tE (cfg X O) B W G (ev S.F (.k d) G)) := by
  unfold okK at h
  split at h
  · exact pe_non.weak fun σ H Q ⟨Su, R⟩ => R .non H (Same.refl H) RepF.mkN
  · have e := eq_of_beq h
    subst e
    exact pe_bl.weak fun σ H Q ⟨Su, R⟩ => R (.bl _) H (Same.refl H) RepF.mkB
  · have e := of_decide_eq_true h
    subst e
    exact pe_int.weak fun σ H Q ⟨Su, R⟩ => R (.int _) H (Same.refl H) RepF.mkI
  · have e := of_decide_eq_true h
    subst e
    exact pe_str.weak fun σ H Q ⟨Su, R⟩ => R (.str _) H (Same.refl H) RepF.mkS
  · cases h
theorem ok_gl (C : CtxB S X O W sc) {n : Nat} {x : Str} {p : Pos} (h : (decide (S.nm n = x) && S.gs.contains n && isGl sc x && plainN x) = true) : PE X (.Name x p) (tE (cfg X O) B W G (ev S.F (.gl n) G)) := by
  simp only [Bool.and_eq_true, decide_eq_true_eq] at h
  obtain ⟨⟨⟨h1, h2⟩, h3⟩, h4⟩ := h
  obtain ⟨o, d, v, u, e, hm, r, hr⟩ := C.gs n h2
  refine (pe_glob (C.gl h3) (by rw [← h1]; exact hm) r (plainN_of h4).1).weak fun σ H Q ⟨Su, R⟩ => ?_
  simp only [ev, e] at R
  exact R v H (Same.refl H) (hr _ _)
/-- two parts, then a thing of both -/
theorem two_read {c : Cfg} {ra rb : Rs (Fl × D)} {k : Fl × D → Fl × D → Rs (Fl × D)} {σ : L2.St} {H : Hp} {Q : VK} {T : V → V → Hp → Prop}
    (h : tE c B W G (ra.bind fun a => rb.bind fun b => k a b) σ H Q)
    (q : ∀ a b x y H1 H2, ra = .ok a → rb = .ok b → Same H H1 → Same H1 H2 → StOk c B G σ H2 → (∀ z, Zof B G σ z → H z ≠ none) → RepF c (Zof B G σ) H H2 a x → RepF c (Zof B G σ) H H2 b y → ResE c B (Zof B G σ) W σ H (k a b) Q → T x y H2) :
    tE c B W G ra σ H fun x H1 => tE c B W G rb σ H1 fun y H2 => T x y H2 := by
  obtain ⟨Su, R⟩ := h
  cases ra with
  | no => exact False.elim R
  | ex x fs => exact ⟨Su, R⟩
  | ok a =>
    refine ⟨Su, fun v H1 s1 rv => ⟨Su.same s1, ?_⟩⟩
    cases rb with
    | no => exact False.elim R
    | ex x fs => exact fun cls dd H' s' e' => R cls dd H' (s1.trans s') e'
    | ok b => exact fun w H2 s2 rw' => q a b v w H1 H2 rfl rfl s1 s2 ((Su.same s1).same s2) Su.ztr (rv.mono s2) (rw'.back s1) R
theorem one_read {c : Cfg} {ra : Rs (Fl × D)} {k : Fl × D → Rs (Fl × D)} {σ : L2.St} {H : Hp} {Q : VK} {T : V → Hp → Prop}
    (h : tE c B W G (ra.bind fun a => k a) σ H Q)
    (q : ∀ a x H1, ra = .ok a → Same H H1 → StOk c B G σ H1 → (∀ z, Zof B G σ z → H z ≠ none) → RepF c (Zof B G σ) H H1 a x → ResE c B (Zof B G σ) W σ H (k a) Q → T x H1) :
    tE c B W G ra σ H fun x H1 => T x H1 := by
  obtain ⟨Su, R⟩ := h
  cases ra with
  | no => exact False.elim R
  | ex x fs => exact ⟨Su, R⟩
  | ok a => exact ⟨Su, fun v H1 s1 rv => q a v H1 rfl s1 (Su.same s1) Su.ztr rv R⟩
/-- from the heap behind -/
theorem ResE.later {c : Cfg} {Z : Addr → Prop} {σ : L2.St} {H H1 : Hp} {r : Rs (Fl × D)} {Q : VK} (h : ResE c B Z W σ H r Q) (s : Same H H1) : ResE c B Z W σ H1 r Q := by
  cases r with
  | no => exact h
  | ok x => exact fun v H' s' rv => h v H' (s.trans s') (rv.back s)
  | ex x fs => exact fun cls dd H' s' e => h cls dd H' (s.trans s') e
theorem binD_ex (op : Bop) (x y : D) (n : Nat) (fs : List D) : binD op x y ≠ .ex n fs := by
  intro e
  unfold binD at e
  split at e
  all_goals first | cases e | (split at e <;> cases e)
theorem ok_b {op : Bop} {o : Operator} {x y : IE} {l r : Expr} {p : Pos} (ho : bopOk op o = true) (hl : PE X l (tE (cfg X O) B W G (ev S.F x G))) (hr : PE X r (tE (cfg X O) B W G (ev S.F y G))) : PE X (.BinOp l o r p) (tE (cfg X O) B W G (ev S.F (.b op x y) G)) := by
  have e := of_decide_eq_true ho
  subst e
  refine (pe_op (op_bin (O := O) op) hl hr).weak fun σ H Q h => ?_
  refine two_read h fun a b x y H1 H2 ea eb s1 s2 Su zt ra rb R => ?_
  cases e : binD op a.2 b.2 with
  | no => rw [e] at R; exact False.elim R
  | ex n fs => exact absurd e (binD_ex _ _ _ _ _)
  | ok res =>
    rw [e] at R
    exact ⟨Zof B G σ, H, a, b, res, zt, s1.trans s2, ra, rb, e, fun v H' s' rv => R v H' ((s1.trans s2).trans s') rv⟩
theorem cmpD_ex (op : Cop) (x y : D) (n : Nat) (fs : List D) : cmpD op x y ≠ .ex n fs := by
  have hq : ∀ x y, eqD x y ≠ .ex n fs := fun x y e => by
    unfold eqD at e
    split at e
    · cases e
    · split at e <;> cases e
  have hm : ∀ x y, memD x y ≠ .ex n fs := fun x y e => by
    unfold memD at e
    split at e
    · split at e <;> cases e
    · split at e
      · cases e
      · split at e <;> cases e
    · split at e <;> cases e
    · split at e <;> cases e
    · cases e
  intro e
  unfold cmpD at e
  split at e
  all_goals first | cases e | skip
  · exact hq _ _ e
  · cases q : eqD x y with
    | no => rw [q] at e; cases e
    | ok b => rw [q] at e; cases e
    | ex n' fs' => rw [q] at e; injection e with e1 e2; subst e1 e2; exact hq _ _ q
  · exact hm _ _ e
  · cases q : memD x y with
    | no => rw [q] at e; cases e
    | ok b => rw [q] at e; cases e
    | ex n' fs' => rw [q] at e; injection e with e1 e2; subst e1 e2; exact hm _ _ q
theorem notSet {e : Expr} {x : IE} (h : okE S x sc e = true) (op : CmpOp) : behindInMarks op e = false := by
  cases e <;> first | rfl | skip
  · cases x <;> simp [okE, isXt] at h
theorem ok_cmp (hu : X.A.units + 65 < cLine) {op : Cop} {o : CmpOp} {x y : IE} {l r : Expr} {p : Pos} (ho : copOk op o = true) (hm : behindInMarks o r = false) (hl : PE X l (tE (cfg X O) B W G (ev S.F x G))) (hr : PE X r (tE (cfg X O) B W G (ev S.F y G))) :
    PE X (.Compare l [o] [r] p) (tE (cfg X O) B W G (ev S.F (.cmp op x y) G)) := by
  have e := of_decide_eq_true ho
  subst e
  refine (pe_cmpR (op_cmp (O := O) hu op) hl hr hm).weak fun σ H Q h => ?_
  refine two_read h fun a b x y H1 H2 ea eb s1 s2 Su zt ra rb R => ?_
  cases e : cmpD op a.2 b.2 with
  | no => rw [e] at R; exact False.elim R
  | ex n fs => exact absurd e (cmpD_ex _ _ _ _ _)
  | ok res =>
    rw [e] at R
    exact ⟨Zof B G σ, H, a, b, res, zt, s1.trans s2, ra, rb, e, R _ _ (s1.trans s2) RepF.mkB⟩
theorem okT_cmp (hu : X.A.units + 65 < cLine) {op : Cop} {o : CmpOp} {x y : IE} {l r : Expr} {p : Pos} (ho : copOk op o = true) (hm : behindInMarks o r = false) (hl : PE X l (tE (cfg X O) B W G (ev S.F x G))) (hr : PE X r (tE (cfg X O) B W G (ev S.F y G))) :
    PT X (.Compare l [o] [r] p) (tT (cfg X O) B W G (asB (ev S.F (.cmp op x y) G))) := by
  have e := of_decide_eq_true ho
  subst e
  refine (pt_cmpR (op_cmp (O := O) hu op) hl hr hm).weak fun σ H Q h => ?_
  obtain ⟨Su, R⟩ := h
  show tE _ _ _ _ _ σ H fun x H1 => tE _ _ _ _ _ σ H1 fun y H2 => _
  simp only [ev] at R
  cases ea : ev S.F x G with
  | no => rw [ea] at R; exact False.elim R
  | ex n fs => rw [ea] at R; exact ⟨Su, R⟩
  | ok a =>
    rw [ea] at R
    refine ⟨Su, fun v H1 s1 rv => ⟨Su.same s1, ?_⟩⟩
    cases eb : ev S.F y G with
    | no => rw [eb] at R; exact False.elim R
    | ex n fs => rw [eb] at R; exact fun cls dd H' s' e' => R cls dd H' (s1.trans s') e'
    | ok b =>
      rw [eb] at R
      refine fun w H2 s2 rw' => ?_
      cases e : cmpD op a.2 b.2 with
      | no => simp only [Rs.bind_ok, e, Rs.bind_no] at R; exact False.elim R
      | ex n fs => exact absurd e (cmpD_ex _ _ _ _ _)
      | ok res =>
        simp only [Rs.bind_ok, e] at R
        exact ⟨Zof B G σ, H, a, b, res, Su.ztr, s1.trans s2, rv.mono s2, rw'.back s1, e, res, rfl, R H2 (s1.trans s2)⟩
/-- a test by its value -/
theorem test_of {e : Expr} {r : Rs (Fl × D)} (h : PE X e (tE (cfg X O) B W G r)) (he : ∀ whole, isTrue e X.env whole = (do let v ← whole; standAt e.pos; holding [v] (truthy v))) : PT X e (tT (cfg X O) B W G (asB r)) := by
  refine (pt_val h he).weak fun σ H Q ⟨Su, R⟩ => ?_
  cases r with
  | no => exact False.elim R
  | ex n fs => exact ⟨Su, R⟩
  | ok a =>
    refine ⟨Su, fun v H1 s1 rv => ?_⟩
    obtain ⟨f, d⟩ := a
    cases d with
    | bl b => exact ⟨b, rv.bl, R H1 s1⟩
    | _ => exact False.elim R
theorem ok_neg {x : IE} {e : Expr} {p : Pos} (h : PE X e (tE (cfg X O) B W G (ev S.F x G))) : PE X (.UnaryOp .USub e p) (tE (cfg X O) B W G (ev S.F (.neg x) G)) := by
  refine (pe_un un_neg h).weak fun σ H Q h => ?_
  refine one_read h fun a x H1 ea s1 Su zt ra R => ?_
  obtain ⟨f, d⟩ := a
  cases d with
  | int i => exact ⟨i, ra.int, R _ _ s1 RepF.mkI⟩
  | _ => exact False.elim R
/-! and, or, not -/
theorem bool_read {c : Cfg} {ra : Rs (Fl × D)} {k : Bool → Rs (Fl × D)} {σ : L2.St} {H : Hp} {Q : VK} {T : V → Hp → Prop}
    (h : tE c B W G ((asB ra).bind k) σ H Q) (q : ∀ b H1, Same H H1 → StOk c B G σ H1 → ResE c B (Zof B G σ) W σ H1 (k b) Q → T (.bl b) H1) : tE c B W G ra σ H fun x H1 => T x H1 := by
  obtain ⟨Su, R⟩ := h
  cases ra with
  | no => exact False.elim R
  | ex x fs => exact ⟨Su, R⟩
  | ok a =>
    obtain ⟨f, d⟩ := a
    cases d with
    | bl b =>
      refine ⟨Su, fun v H1 s1 rv => ?_⟩
      have e := rv.bl
      subst e
      exact q b H1 s1 (Su.same s1) (ResE.later R s1)
    | _ => exact False.elim R
theorem ok_and {x y : IE} {a b : Expr} {rest : List Expr} {p : Pos} (hx : PE X a (tE (cfg X O) B W G (ev S.F x G))) (hy : PE X (.BoolOp .And (b :: rest) p) (tE (cfg X O) B W G (ev S.F y G))) : PE X (.BoolOp .And (a :: b :: rest) p) (tE (cfg X O) B W G (ev S.F (.and_ x y) G)) := by
  refine (pe_and hx hy).weak fun σ H Q h => ?_
  refine bool_read h fun b H1 s1 Su R => ⟨b, rfl, ?_⟩
  cases b with
  | true => rw [if_pos rfl] at R ⊢; exact ⟨Su, R⟩
  | false => rw [if_neg Bool.false_ne_true] at R ⊢; exact R _ _ (Same.refl _) RepF.mkB
theorem ok_or {x y : IE} {a b : Expr} {rest : List Expr} {p : Pos} (hx : PE X a (tE (cfg X O) B W G (ev S.F x G))) (hy : PE X (.BoolOp .Or (b :: rest) p) (tE (cfg X O) B W G (ev S.F y G))) : PE X (.BoolOp .Or (a :: b :: rest) p) (tE (cfg X O) B W G (ev S.F (.or_ x y) G)) := by
  refine (pe_or hx hy).weak fun σ H Q h => ?_
  refine bool_read h fun b H1 s1 Su R => ⟨b, rfl, ?_⟩
  cases b with
  | true => rw [if_pos rfl] at R ⊢; exact R _ _ (Same.refl _) RepF.mkB
  | false => rw [if_neg Bool.false_ne_true] at R ⊢; exact ⟨Su, R⟩
theorem ok_not {x : IE} {a : Expr} {p : Pos} (hx : PE X a (tE (cfg X O) B W G (ev S.F x G))) : PE X (.UnaryOp .Not a p) (tE (cfg X O) B W G (ev S.F (.not_ x) G)) := by
  refine (pe_not hx).weak fun σ H Q h => ?_
  exact bool_read h fun b H1 s1 Su R => ⟨b, rfl, R _ _ (Same.refl _) RepF.mkB⟩
/-- tests -/
theorem ResB.later {c : Cfg} {Z : Addr → Prop} {σ : L2.St} {H H1 : Hp} {r : Rs Bool} {Q : Bool → Hp → Prop} (h : ResB c B Z W σ H r Q) (s : Same H H1) : ResB c B Z W σ H1 r Q := by
  cases r with
  | no => exact h
  | ok x => exact fun H' s' => h H' (s.trans s')
  | ex x fs => exact fun cls dd H' s' e => h cls dd H' (s.trans s') e
theorem test_read {c : Cfg} {ra : Rs Bool} {r : Rs Bool} {σ : L2.St} {H : Hp} {Q : Bool → Hp → Prop} {T : Bool → Hp → Prop}
    (h : tT c B W G r σ H Q) (e : (∃ b, ra = .ok b) ∨ r = .no ∨ ∃ n fs, ra = .ex n fs ∧ r = .ex n fs) (q : ∀ b H1, ra = .ok b → Same H H1 → StOk c B G σ H1 → ResB c B (Zof B G σ) W σ H1 r Q → T b H1) : tT c B W G ra σ H fun x H1 => T x H1 := by
  obtain ⟨Su, R⟩ := h
  rcases e with ⟨b, e⟩ | e | ⟨n, fs, e1, e2⟩
  · subst e
    exact ⟨Su, fun H1 s1 => q b H1 rfl s1 (Su.same s1) (ResB.later R s1)⟩
  · subst e; exact False.elim R
  · subst e1 e2; exact ⟨Su, R⟩
theorem asB_bind {ra : Rs Bool} {k : Bool → Rs (Fl × D)} : asB (ra.bind k) = ra.bind fun b => asB (k b) := by cases ra <;> rfl
theorem okT_and {x y : IE} {a b : Expr} {rest : List Expr} {p : Pos} (hx : PT X a (tT (cfg X O) B W G (asB (ev S.F x G)))) (hy : PW X (.BoolOp .And (b :: rest) p) (tT (cfg X O) B W G (asB (ev S.F y G)))) : PT X (.BoolOp .And (a :: b :: rest) p) (tT (cfg X O) B W G (asB (ev S.F (.and_ x y) G))) := by
  refine (pw_and hx hy).pt.weak fun σ H Q h => ?_
  simp only [ev, asB_bind] at h
  refine test_read h ?_ fun b H1 e s1 Su R => ?_
  · cases e : asB (ev S.F x G) with
    | no => exact .inr (.inl rfl)
    | ok b => exact .inl ⟨b, rfl⟩
    | ex n fs => exact .inr (.inr ⟨n, fs, rfl, rfl⟩)
  · rw [e, Rs.bind_ok] at R
    cases b with
    | true => rw [if_pos rfl] at R ⊢; exact ⟨Su, R⟩
    | false => rw [if_neg Bool.false_ne_true] at R ⊢; exact R _ (Same.refl _)
theorem okT_or {x y : IE} {a b : Expr} {rest : List Expr} {p : Pos} (hx : PT X a (tT (cfg X O) B W G (asB (ev S.F x G)))) (hy : PW X (.BoolOp .Or (b :: rest) p) (tT (cfg X O) B W G (asB (ev S.F y G)))) : PT X (.BoolOp .Or (a :: b :: rest) p) (tT (cfg X O) B W G (asB (ev S.F (.or_ x y) G))) := by
  refine (pw_or hx hy).pt.weak fun σ H Q h => ?_
  simp only [ev, asB_bind] at h
  refine test_read h ?_ fun b H1 e s1 Su R => ?_
  · cases e : asB (ev S.F x G) with
    | no => exact .inr (.inl rfl)
    | ok b => exact .inl ⟨b, rfl⟩
    | ex n fs => exact .inr (.inr ⟨n, fs, rfl, rfl⟩)
  · rw [e, Rs.bind_ok] at R
    cases b with
    | true => rw [if_pos rfl] at R ⊢; exact R _ (Same.refl _)
    | false => rw [if_neg Bool.false_ne_true] at R ⊢; exact ⟨Su, R⟩
theorem okT_not {x : IE} {a : Expr} {p : Pos} (hx : PT X a (tT (cfg X O) B W G (asB (ev S.F x G)))) : PT X (.UnaryOp .Not a p) (tT (cfg X O) B W G (asB (ev S.F (.not_ x) G))) := by
  refine (pt_not hx).weak fun σ H Q h => ?_
  simp only [ev, asB_bind] at h
  refine test_read h ?_ fun b H1 e s1 Su R => ?_
  · cases e : asB (ev S.F x G) with
    | no => exact .inr (.inl rfl)
    | ok b => exact .inl ⟨b, rfl⟩
    | ex n fs => exact .inr (.inr ⟨n, fs, rfl, rfl⟩)
  · rw [e, Rs.bind_ok] at R
    exact R _ (Same.refl _)
theorem ok_ife {t x y : IE} {c a b : Expr} {p : Pos} (ht : PT X c (tT (cfg X O) B W G (asB (ev S.F t G)))) (hx : PE X a (tE (cfg X O) B W G (ev S.F x G))) (hy : PE X b (tE (cfg X O) B W G (ev S.F y G))) : PE X (.IfExp c a b p) (tE (cfg X O) B W G (ev S.F (.ife t x y) G)) := by
  refine (pe_ifExp ht hx hy).weak fun σ H Q h => ?_
  obtain ⟨Su, R⟩ := h
  simp only [ev] at R
  show tT _ _ _ _ _ σ H _
  cases e : asB (ev S.F t G) with
  | no => rw [e] at R; exact False.elim R
  | ex n fs => rw [e] at R; exact ⟨Su, R⟩
  | ok b =>
    rw [e, Rs.bind_ok] at R
    refine ⟨Su, fun H1 s1 => ?_⟩
    cases b with
    | true => rw [if_pos rfl] at R ⊢; exact ⟨Su.same s1, ResE.later R s1⟩
    | false => rw [if_neg Bool.false_ne_true] at R ⊢; exact ⟨Su.same s1, ResE.later R s1⟩
end
end RA
/-! RA7: items, slices, displays, calls. -/
namespace RA
open PySem PySem.Spec PyProof.Rows L2
variable [Tabs]
/-! ### what the text's expressions look like -/
def Plain1 : Expr → Prop
  | .Starred _ _ => False
  | .Slice _ _ _ _ => False
  | .Yield _ _ => False
  | .NamedExpr _ _ _ => False
  | _ => True
section
variable {S : Stat} {sc : Scope}
theorem okE_plain : ∀ {x : IE} {e : Expr}, okE S x sc e = true → Plain1 e := fun {x e} h => by
  cases e <;> first | exact trivial | (cases x <;> simp [okE, isXt] at h)
theorem star_cons {e : Expr} {es : List Expr} {env : Env} (h : Plain1 e) : starEach (e :: es) env = (false, eval e env) :: starEach es env := by
  cases e <;> first | rfl | exact h.elim
theorem okA_back : ∀ {as : IEs} {es : List Expr} {p : Pos} {env : Env}, okA S as sc es = true → (backTo p (starEach es env)).any (·.1) = false
  | .nil, [], _, _, _ => rfl
  | .cons x as, e :: es, p, env, h => by
    simp only [okA, Bool.and_eq_true] at h
    rw [star_cons (okE_plain h.1)]
    have ih := okA_back (p := p) (env := env) h.2
    show (false || (backTo p (starEach es env)).any (·.1)) = false
    rw [ih]; rfl
  | .nil, _ :: _, _, _, h => by simp [okA] at h
  | .cons _ _, [], _, _, h => by simp [okA] at h
theorem plainIx {e : Expr} (h : Plain1 e) : PlainIx e := by
  cases e <;> first | (intro o i; rfl) | exact h.elim
theorem attrBase {e : Expr} {m : Str} {env : Env} (h : notC0 e = true) : attributeBase e m env (eval e env) = eval e env := by
  cases e <;> first | rfl | skip
  rename_i f args kws pos
  cases args with
  | nil =>
    cases f <;> first | rfl | skip
    · cases kws with
      | nil => exact absurd h Bool.false_ne_true
      | cons _ _ => rfl
  | cons a as =>
    cases f <;> rfl
theorem foldedIt {e : Expr} {env : Env} (h : Plain1 e) (hs : ∀ es k p, e ≠ .Set es k p) (x : Value) : foldedSetIterable e env x = pure x := by
  cases e <;> first | rfl | (exact (hs _ _ _ rfl).elim)
theorem okE_notSet {x : IE} {e : Expr} (h : okE S x sc e = true) : ∀ es k p, e ≠ .Set es k p := fun es k p z => by
  subst z
  cases x <;> simp [okE, okTy2, isXt] at h
end
section
variable {S : Stat} {X : Cx} {O : OpT} {W : WX} {sc : Scope} {B : Addr → Prop} {G : Ev}
theorem ixD_ex (x y : D) (n : Nat) (fs : List D) : ixD x y ≠ .ex n fs := by
  intro e
  unfold ixD at e
  split at e
  · split at e <;> cases e
  · split at e <;> cases e
  · split at e
    · split at e <;> cases e
    · cases e
  · split at e
    · split at e <;> cases e
    · cases e
  · cases e
theorem ok_ix (hu : X.A.units + 64 < cLine) {x i : IE} {o e : Expr} {p : Pos} (hp : Plain1 e) (hx : PE X o (tE (cfg X O) B W G (ev S.F x G))) (hi : PE X e (tE (cfg X O) B W G (ev S.F i G))) : PE X (.Subscript o e p) (tE (cfg X O) B W G (ev S.F (.ix x i) G)) := by
  refine (pe_ix (ix_data (O := O) hu) hx hi (plainIx hp)).weak fun σ H Q h => ?_
  refine two_read h fun a b x y H1 H2 ea eb s1 s2 Su zt ra rb R => ?_
  cases e : ixD a.2 b.2 with
  | no => rw [e] at R; exact False.elim R
  | ex n fs => exact absurd e (ixD_ex _ _ _ _)
  | ok res =>
    rw [e] at R
    exact ⟨Zof B G σ, H, a, b, res, zt, s1.trans s2, ra, rb, e, fun v H' s' rv => R v H' ((s1.trans s2).trans s') rv⟩
theorem slD_ex (x : D) (lo hi : Option Int) (n : Nat) (fs : List D) : slD x lo hi ≠ .ex n fs := by
  intro e
  unfold slD at e
  split at e
  · cases e
  · split at e <;> cases e
  · split at e
    · contradiction
    · contradiction
  · cases e
/-- a part of a slice -/
def tO (c : Cfg) (B : Addr → Prop) (W : WX) (G : Ev) (r : Rs (Option Int)) : TO := fun σ H Q => StOk c B G σ H ∧ match r with
  | .no => False
  | .ok l => ∀ H', Same H H' → Q l H'
  | .ex x fs => ∀ cls dd H', Same H H' → ExcAt c (Zof B G σ) H' x fs cls dd → W cls dd σ H'
theorem _root_.L2.PO.weak {X : Cx} {e : Option Expr} {t t' : TO} (h : PO X e t) (k : ∀ σ H Q, t' σ H Q → t σ H Q) : PO X e t' := ⟨fun pins s σ H Q I q => h.run pins s σ H Q I (k σ H Q q)⟩
theorem ok_partE {x : IE} {e : Expr} (h : PE X e (tE (cfg X O) B W G (ev S.F x G))) (hn : isOut x = false) : PO X (some e) (tO (cfg X O) B W G (prt (isOut x) (ev S.F x G))) := by
  refine (po_some h).weak fun σ H Q ⟨Su, R⟩ => ?_
  rw [hn] at R
  cases ea : ev S.F x G with
  | no => rw [ea] at R; exact False.elim R
  | ex n fs => rw [ea] at R; exact ⟨Su, R⟩
  | ok a =>
    rw [ea] at R
    refine ⟨Su, fun v H1 s1 rv => ?_⟩
    obtain ⟨f, d⟩ := a
    cases d with
    | int i => exact ⟨i, rv.int, R H1 s1⟩
    | _ => exact False.elim R
theorem ok_part0 : PO X none (tO (cfg X O) B W G (prt (isOut .out) (ev S.F .out G))) := po_none.weak fun σ H Q ⟨Su, R⟩ => R H (Same.refl H)
theorem ok_sl {x lo hi : IE} {o : Expr} {l h : Option Expr} {p p2 : Pos} (hx : PE X o (tE (cfg X O) B W G (ev S.F x G))) (hl : PO X l (tO (cfg X O) B W G (prt (isOut lo) (ev S.F lo G)))) (hh : PO X h (tO (cfg X O) B W G (prt (isOut hi) (ev S.F hi G)))) :
    PE X (.Subscript o (.Slice l h none p2) p) (tE (cfg X O) B W G (ev S.F (.sl x lo hi) G)) := by
  refine (pe_slice (sl_data (O := O)) hx hl hh).weak fun σ H Q hq => ?_
  refine one_read (T := fun x H1 => tO _ _ _ _ _ σ H1 fun l H2 => tO _ _ _ _ _ σ H2 fun u H3 => rSlD _ x l u H3 Q) hq fun a x H1 ea s1 Su zt ra R => ?_
  refine ⟨Su, ?_⟩
  cases el : prt (isOut lo) (ev S.F lo G) with
  | no => rw [el] at R; exact False.elim R
  | ex n fs => rw [el] at R; exact fun cls dd H' s' e' => R cls dd H' (s1.trans s') e'
  | ok b =>
    rw [el, Rs.bind_ok] at R
    refine fun H2 s2 => ⟨Su.same s2, ?_⟩
    cases eh : prt (isOut hi) (ev S.F hi G) with
    | no => rw [eh] at R; exact False.elim R
    | ex n fs => rw [eh] at R; exact fun cls dd H' s' e' => R cls dd H' ((s1.trans s2).trans s') e'
    | ok d =>
      rw [eh, Rs.bind_ok] at R
      refine fun H3 s3 => ?_
      cases e : slD a.2 b d with
      | no => rw [e] at R; exact False.elim R
      | ex n fs => exact absurd e (slD_ex _ _ _ _ _)
      | ok res =>
        rw [e] at R
        exact ⟨Zof B G σ, H, a, res, zt, (s1.trans s2).trans s3, (ra.mono s2).mono s3, e, fun v H' s' rv => R v H' (((s1.trans s2).trans s3).trans s') rv⟩
/-! ### x[::-1] -/
theorem rev_txt (s : List Nat) (uk : Tok) : Txt.sliceBy ⟨⟨s⟩⟩ none none (-1, uk) = ⟨⟨s.reverse⟩⟩ := by
  unfold Txt.sliceBy slicePicked
  rw [if_neg (by intro z; cases z)]
  have e : Builtin.Str.strSliceIndices none none (-1) (⟨⟨s⟩⟩ : PySem.Str).length = (List.range s.length).reverse := by
    show sliceRange ((s.length : Int) - 1) (-1) (-1) = _
    rw [PySem.W.krv_sliceRange, PySem.W.krv_range]
  show (⟨((Builtin.Str.strSliceIndices none none (-1) (⟨⟨s⟩⟩ : PySem.Str).length).filterMap fun i => (⟨⟨s⟩⟩ : PySem.Str).cps[i]?).toArray⟩ : PySem.Str) = _
  rw [e, List.filterMap_reverse]
  have k := PySem.W.krv_all (#[] ++ s.toArray)
  have k' : (List.range s.length).filterMap (fun i => (⟨⟨s⟩⟩ : PySem.Str).cps[i]?) = s := by
    have q := PySem.W.krv_all (⟨s⟩ : Array Nat)
    exact q
  rw [k']
def tRevS (te : TE) : TE := fun σ H Q => te σ H fun x H1 => ∃ s : List Nat, x = .str ⟨⟨s⟩⟩ ∧ s.length ≤ sizeLine ∧ Q (.str ⟨⟨s.reverse⟩⟩) H1
theorem pe_revS {e : Expr} {te : TE} {k : Nat} {p1 p2 p3 pos : Pos} (he : PE X e te) : PE X (.Subscript e (.Slice none none (some (.UnaryOp .USub (.Constant (.int 1) k p1) p2)) p3) pos) (tRevS te) := by
  refine ⟨fun pins s σ H Q I h => ?_⟩
  refine Subscript_ (thn (he.run pins s σ H _ I h) fun v s1 ⟨x, H1, I1, r1, q1⟩ => ?_)
  obtain ⟨w, ex, hz, q⟩ := q1
  subst ex
  obtain ⟨t, rfl⟩ := r1
  have hst : PO X (some (.UnaryOp .USub (.Constant (.int 1) k p1) p2)) (tPart (tUn (rU fun i => .int (-i)) (tC (.int 1)))) := po_some (pe_un un_neg pe_int)
  refine wpAny_Slice (thn (po_none.run pins s1 σ H1 (fun o H2 => o = none ∧ H2 = H1) I1 ⟨rfl, rfl⟩) fun vl s2 ⟨l, H2, I2, pl, el, e2⟩ => ?_)
  subst el e2
  refine thn (po_none.run pins s2 σ H2 (fun o H3 => o = none ∧ H3 = H2) I2 ⟨rfl, rfl⟩) fun vu s3 ⟨u, H3, I3, pu, eu, e3⟩ => ?_
  subst eu e3
  refine thn (hst.run pins s3 σ H3 (fun o H4 => o = some (-1) ∧ H4 = H3) I3 ⟨1, rfl, -1, rfl, rfl, rfl⟩) fun vs s4 ⟨o, H4, I4, ps, eo, e4⟩ => ?_
  subst eo e4
  have I5 : Inv X pins σ H4 { s4 with heap := s4.heap.push { cls := .type "slice", data := .fields #[vl, vu, vs] } } := I4.kept (t' := s4.toks) fun b ob q => Heap.get?_push_of_some _ q
  obtain ⟨l, el, hl⟩ := IsPart.raw pl
  obtain ⟨u, eu, hu⟩ := IsPart.raw pu
  cases l with
  | some _ => cases hl
  | none =>
    cases u with
    | some _ => cases hu
    | none =>
      obtain ⟨st, est, hst⟩ := IsPart.raw ps
      cases st with
      | none => cases hst
      | some st =>
        obtain ⟨j, uk⟩ := st
        have hj : -1 = j := (Option.some.inj hst).symm
        subst el eu est hj
        refine tail_any (T := "str") (ops := [.ref s4.heap.objs.size, .str ⟨⟨w⟩⟩ t]) (typeIs_str _ _ _) F.slot_str_getitem.lookup (wpAny_getItem_str_slice (l := none) (u := none) (st := some (-1, uk)) ⟨_, Heap.get?_push_size _ rfl, rfl, rfl⟩ rfl ?_) (by with_unfolding_all rfl)
        refine post_val_or_str ⟨Nat.le_trans (Txt.sliceBy_le ⟨⟨w⟩⟩ _ _ (-1, uk) (show (-1 : Int) ≠ 0 by decide)) hz, fun t' c => ?_⟩
        refine ⟨.str ⟨⟨w.reverse⟩⟩, H4, I5.tok _, ⟨t', ?_⟩, q⟩
        have er := rev_txt w uk
        unfold Txt.sliceBy at er
        rw [← er]
theorem ok_rv {x : IE} {o : Expr} {k : Nat} {p1 p2 p3 pos : Pos} (hx : PE X o (tE (cfg X O) B W G (ev S.F x G))) : PE X (.Subscript o (.Slice none none (some (.UnaryOp .USub (.Constant (.int 1) k p1) p2)) p3) pos) (tE (cfg X O) B W G (ev S.F (.rv x) G)) := by
  cases ea : ev S.F x G with
  | no => exact PE.never fun σ H Q ⟨Su, R⟩ => by simp only [ev, ea, Rs.bind_no] at R; exact R
  | ex n fs =>
    refine (pe_revS hx).weak fun σ H Q ⟨Su, R⟩ => ?_
    simp only [ev, ea, Rs.bind_ex] at R
    show tE _ _ _ _ _ σ H _
    rw [ea]
    exact ⟨Su, R⟩
  | ok a =>
    obtain ⟨f, d⟩ := a
    cases d with
    | lst ds =>
      refine (pe_revL hx).weak fun σ H Q ⟨Su, R⟩ => ?_
      simp only [ev, ea, Rs.bind_ok, rvD] at R
      show tE _ _ _ _ _ σ H _
      rw [ea]
      refine ⟨Su, fun v H1 s1 rv => ?_⟩
      obtain ⟨a, vs, rfl, h1, h2⟩ := rv.lst
      refine ⟨a, vs, rfl, h1, fun p np => ?_⟩
      obtain ⟨k1, k2⟩ := newL s1 np h2.rev
      exact R _ _ (s1.trans k1) k2
    | str t =>
      refine (pe_revS hx).weak fun σ H Q ⟨Su, R⟩ => ?_
      simp only [ev, ea, Rs.bind_ok, rvD] at R
      split at R
      · rename_i hl
        show tE _ _ _ _ _ σ H _
        rw [ea]
        exact ⟨Su, fun v H1 s1 rv => ⟨t, rv.str, hl, R _ _ s1 RepF.mkS⟩⟩
      · exact False.elim R
    | _ => exact PE.never fun σ H Q ⟨Su, R⟩ => by simp only [ev, ea, Rs.bind_ok, rvD] at R; exact R
end
end RA
/-! RA8: argument lists, displays, calls of built-ins, methods, own defs. -/
namespace RA
open PySem PySem.Spec PyProof.Rows L2
variable [Tabs]
section
variable {S : Stat} {X : Cx} {O : OpT} {W : WX} {sc : Scope} {B : Addr → Prop} {G : Ev}
theorem RepsF.length {c : Cfg} {Z : Addr → Prop} {H H' : Hp} {xs : List (Fl × D)} {vs : List V} (h : RepsF c Z H H' xs vs) : xs.length = vs.length := by
  induction h with
  | nil => rfl
  | cons _ _ ih => rw [List.length_cons, List.length_cons, ih]
theorem okA_nil : PA X [] (tA (cfg X O) B W G (evs S.F .nil G)) := pa_nil.weak fun σ H Q ⟨Su, R⟩ => R [] H (Same.refl H) .nil
theorem okA_cons {x : IE} {as : IEs} {e : Expr} {es : List Expr} (hp : Plain1 e) (hx : PE X e (tE (cfg X O) B W G (ev S.F x G))) (ha : PA X es (tA (cfg X O) B W G (evs S.F as G))) : PA X (e :: es) (tA (cfg X O) B W G (evs S.F (.cons x as) G)) := by
  refine (pa_cons hx ha (star_cons hp)).weak fun σ H Q ⟨Su, R⟩ => ?_
  simp only [evs] at R
  show tE _ _ _ _ _ σ H fun x H1 => tA _ _ _ _ _ σ H1 fun xs H2 => Q (x :: xs) H2
  cases ea : ev S.F x G with
  | no => rw [ea] at R; exact False.elim R
  | ex n fs => rw [ea] at R; exact ⟨Su, R⟩
  | ok a =>
    rw [ea, Rs.bind_ok] at R
    refine ⟨Su, fun v H1 s1 rv => ⟨Su.same s1, ?_⟩⟩
    cases eb : evs S.F as G with
    | no => rw [eb] at R; exact False.elim R
    | ex n fs => rw [eb] at R; exact fun cls dd H' s' e' => R cls dd H' (s1.trans s') e'
    | ok b =>
      rw [eb] at R
      exact fun vs H2 s2 rw' => R _ H2 (s1.trans s2) (.cons (rv.mono s2) (rw'.back s1))
/-- the arguments, then a thing of them -/
theorem args_read {c : Cfg} {ra : Rs (List (Fl × D))} {k : List (Fl × D) → Rs (Fl × D)} {σ : L2.St} {H : Hp} {Q : VK} {T : List V → Hp → Prop}
    (h : tE c B W G (ra.bind k) σ H Q)
    (q : ∀ xs vs H1, ra = .ok xs → Same H H1 → StOk c B G σ H1 → (∀ z, Zof B G σ z → H z ≠ none) → RepsF c (Zof B G σ) H H1 xs vs → ResE c B (Zof B G σ) W σ H (k xs) Q → T vs H1) :
    tA c B W G ra σ H fun vs H1 => T vs H1 := by
  obtain ⟨Su, R⟩ := h
  cases ra with
  | no => exact False.elim R
  | ex x fs => exact ⟨Su, R⟩
  | ok a => exact ⟨Su, fun v H1 s1 rv => q a v H1 rfl s1 (Su.same s1) Su.ztr rv R⟩
theorem small1000' {n : Nat} (h : n ≤ 1000) : n ≤ sizeLine := by rw [sizeLine_eq]; omega
theorem ok_tup {as : IEs} {es : List Expr} {j : Nat} {p : Pos} (h : PA X es (tA (cfg X O) B W G (evs S.F as G))) : PE X (.Tuple es j p) (tE (cfg X O) B W G (ev S.F (.tup as) G)) := by
  refine (pe_tup h).weak fun σ H Q hq => ?_
  refine args_read hq fun xs vs H1 ea s1 Su zt rs R => ?_
  split at R
  · rename_i hk
    refine ⟨by rw [← rs.length]; exact small1000' hk.2, fun p np => ?_⟩
    obtain ⟨k1, k2⟩ := newT (c := cfg X O) zt s1 np (rs.keep hk.1 zt)
    exact R _ _ (s1.trans k1) k2
  · exact False.elim R
theorem ok_lst {as : IEs} {es : List Expr} {p : Pos} (h : PA X es (tA (cfg X O) B W G (evs S.F as G))) : PE X (.List es p) (tE (cfg X O) B W G (ev S.F (.lst as) G)) := by
  refine (pe_lst h).weak fun σ H Q hq => ?_
  refine args_read hq fun xs vs H1 ea s1 Su zt rs R => ?_
  split at R
  · rename_i hk
    refine ⟨by rw [← rs.length]; exact small1000' hk.2, fun p np => ?_⟩
    obtain ⟨k1, k2⟩ := newL s1 np (rs.keep hk.1 zt)
    exact R _ _ (s1.trans k1) k2
  · exact False.elim R
theorem biD_ex (f : Bf) (ds : List D) (n : Nat) (fs : List D) : biD f ds ≠ .ex n fs := by
  intro e
  unfold biD at e
  split at e
  all_goals repeat' (first | (cases e; done) | split at e)
theorem okB_of (C : CtxB S X O W sc) {x y : Str} (h : okB S sc x y = true) : y = x ∧ Gl X y ∧ X.mg y = none ∧ y ≠ "__name__" ∧ (y == ("__debug__" : Str)) = false := by
  unfold okB at h
  simp only [Bool.and_eq_true, decide_eq_true_eq] at h
  obtain ⟨⟨⟨h1, h2⟩, h3⟩, h4⟩ := h
  obtain ⟨p1, p2, p3⟩ := plainN_of h4
  exact ⟨h1.symm, C.gl h2, C.bs _ h3, p3, p1⟩
theorem ok_lset (C : CtxB S X O W sc) {x : IE} {y z : Str} {b : Expr} {p p2 q pos : Pos} (hy : okB S sc "len" y = true) (hz : okB S sc "set" z = true) (na : Plain1 b) (hx : PE X b (tE (cfg X O) B W G (ev S.F x G))) :
    PE X (.Call (.Name y p) [.Call (.Name z p2) [b] [] q] [] pos) (tE (cfg X O) B W G (ev S.F (.lset x) G)) := by
  obtain ⟨rfl, hg, hm, hn, hd⟩ := okB_of C hy
  obtain ⟨rfl, hg2, hm2, hn2, hd2⟩ := okB_of C hz
  refine (RZ.pe_lenSetI (X := X) hg hm hg2 hm2 hx C.calm (star_cons na)).weak fun σ H Q ⟨Su, R⟩ => ?_
  cases ea : ev S.F x G with
  | no => simp only [ev, ea, Rs.bind_no] at R; exact R.elim
  | ex n fs =>
    simp only [ev, ea, Rs.bind_ex] at R
    exact ⟨Su, R⟩
  | ok a =>
    simp only [ev, ea, Rs.bind_ok] at R
    refine ⟨Su, fun v H1 s1 rv => ?_⟩
    obtain ⟨f, d⟩ := a
    cases d with
    | lst xs =>
      simp only [lsetD] at R
      split at R
      · rename_i ns e
        split at R
        · rename_i hc
          obtain ⟨l, vs, rfl, h1, h2⟩ := rv.lst
          have ev := reps_intsOf h2 e
          subst ev
          exact ⟨l, ns, rfl, h1, hc.1, hc.2, R _ _ s1 RepF.mkI⟩
        · exact R.elim
      · exact R.elim
    | _ => exact R.elim
theorem boot_bf (f : Bf) : bootBuiltins (bfName f) = some (bfVal f) := by cases f <;> decide +kernel
theorem boot_ty (f : Bf) (h : isTy f = true) : bootBuiltins (tyName f) = some (.type (bfType f)) := by
  cases f <;> first | decide +kernel | exact absurd h Bool.false_ne_true
theorem ok_bi (C : CtxB S X O W sc) {f : Bf} {as : IEs} {x : Str} {es : List Expr} {p pos : Pos} (hb : okB S sc (bfName f) x = true) (hf : isTy f = false) (hne : es.isEmpty = false) (ha : okA S as sc es = true)
    (h : PA X es (tA (cfg X O) B W G (evs S.F as G))) : PE X (.Call (.Name x p) es [] pos) (tE (cfg X O) B W G (ev S.F (.bi f as) G)) := by
  obtain ⟨rfl, hg, hm, hn, hd⟩ := okB_of C hb
  cases es with
  | nil => cases hne
  | cons e es =>
    have hs : starEach (e :: es) X.env = (false, eval e X.env) :: starEach es X.env := by
      cases as with
      | nil => simp [okA] at ha
      | cons x as => simp only [okA, Bool.and_eq_true] at ha; exact star_cons (okE_plain ha.1)
    have hpl : (backTo pos (starEach es X.env)).any (·.1) = false := by
      cases as with
      | nil => simp [okA] at ha
      | cons x as => simp only [okA, Bool.and_eq_true] at ha; exact okA_back ha.2
    have hfn : bfVal f ≠ .builtin "isinstance" := by cases f <;> first | (exact absurd hf (by decide)) | (intro z; simp [bfVal] at z)
    have rule := call_bi (X := X) (O := O) f C.calm hfn
    have key : PE X (.Call (.Name (bfName f) p) (e :: es) [] pos) (tCB (rBi (cfg X O) (biD f)) (tA (cfg X O) B W G (evs S.F as G))) := by
      have hv := boot_bf f
      generalize hbv : bfVal f = bv at hv rule
      generalize bfName f = nmx at hg hm hn hd hv ⊢
      cases f <;> (cases hbv; first | exact pe_callB rule hg hm hv h hn hd hs hpl | exact pe_callTy rule hg hm hv h hn hd hs hpl)
    refine key.weak fun σ H Q hq => ?_
    refine args_read hq fun xs vs H1 ea s1 Su zt rs R => ?_
    cases e : biD f (xs.map (·.2)) with
    | no => rw [e] at R; exact False.elim R
    | ex n fs => exact absurd e (biD_ex _ _ _ _)
    | ok r =>
      rw [e] at R
      exact ⟨Zof B G σ, H, xs, r, zt, s1, rs, e, fun v H' s' rv => R v H' (s1.trans s') rv⟩
theorem ok_is (C : CtxB S X O W sc) {f : Bf} {x : IE} {z y : Str} {a : Expr} {p p2 pos : Pos} (hb : okB S sc (bfName f) z = true) (hf : isTy f = true) (hy : okB S sc (tyName f) y = true) (hpl : Plain1 a)
    (h : PE X a (tE (cfg X O) B W G (ev S.F x G))) : PE X (.Call (.Name z p) [a, .Name y p2] [] pos) (tE (cfg X O) B W G (ev S.F (.bi f (.cons x .nil)) G)) := by
  obtain ⟨rfl, hg, hm, hn, hd⟩ := okB_of C hb
  obtain ⟨rfl, hg2, hm2, hn2, hd2⟩ := okB_of C hy
  have en : bfName f = "isinstance" := by cases f <;> first | rfl | exact absurd hf Bool.false_ne_true
  rw [en] at hg hm hn hd ⊢
  have hs : starEach [a, .Name (tyName f) p2] X.env = (false, eval a X.env) :: starEach [.Name (tyName f) p2] X.env := star_cons hpl
  have hty : PE X (.Name (tyName f) p2) (tC (.ty (bfType f))) := pe_bltn hg2 hm2 (boot_ty f hf) rfl hn2 hd2
  refine (pe_callB call_isi hg hm PyProof.Rows.boot_isinstance (pa_cons h (pa_cons hty pa_nil) hs) hn hd hs rfl).weak fun σ H Q hq => ?_
  simp only [ev, evs] at hq
  refine one_read (T := fun v H1 => rIsi X.K [v, .ty (bfType f)] H1 Q) (Q := Q) (k := fun a => ((Rs.ok []).bind fun ds => Rs.ok (a :: ds)).bind fun ds => biD f (ds.map (·.2))) ?_ fun a v H1 ea s1 Su zt rv R => ?_
  · cases e : ev S.F x G with
    | no => rw [e] at hq; exact hq
    | ex n fs => rw [e] at hq; exact hq
    | ok a => rw [e] at hq; exact hq
  · have R' : ResE (cfg X O) B (Zof B G σ) W σ H (biD f [a.2]) Q := R
    cases e : biD f [a.2] with
    | no => rw [e] at R'; exact False.elim R'
    | ex n fs => exact absurd e (biD_ex _ _ _ _)
    | ok r =>
      rw [e] at R'
      exact call_is (K := X.K) f hf rv e fun v H' s' rv => R' v H' (s1.trans s') (rv.back (Same.refl H))
/-! ### methods -/
theorem find_occ (s : List Nat) (ch : Nat) : Txt.find ⟨⟨s⟩⟩ ⟨⟨[ch]⟩⟩ = findL s ch := by
  unfold Txt.find findL
  have h1 : ∀ i, StrLaws.At (⟨⟨s⟩⟩ : PySem.Str) ⟨⟨[ch]⟩⟩ (⟨⟨s⟩⟩ : PySem.Str).length i ↔ s[i]? = some ch := fun i => by
    have := StrLaws.subAt_one (⟨⟨s⟩⟩ : PySem.Str) ch i
    exact this
  rcases StrLaws.occ_head_from (⟨⟨s⟩⟩ : PySem.Str) ⟨⟨[ch]⟩⟩ 0 1 (Nat.le_refl 1) with ⟨e, h⟩ | ⟨i, r, e, _, h, k⟩
  · have e' : List.findIdx? (fun x => x == ch) s = none := by
      rw [List.findIdx?_eq_none_iff]
      intro x hx
      obtain ⟨i, hi⟩ := List.getElem?_of_mem hx
      rw [beq_eq_false_iff_ne]
      intro z
      subst z
      exact h i (Nat.zero_le _) ((h1 i).mpr hi)
    rw [e, e']
  · have e' : List.findIdx? (fun x => x == ch) s = some i := by
      have hi := (h1 i).mp h
      obtain ⟨hl, hi'⟩ := List.getElem?_eq_some_iff.mp hi
      rw [List.findIdx?_eq_some_iff_getElem]
      refine ⟨hl, by rw [hi']; exact beq_self_eq_true _, fun j hj => ?_⟩
      have hjl : j < s.length := Nat.lt_trans hj hl
      intro z
      have z' := eq_of_beq z
      exact k j (Nat.zero_le _) hj ((h1 j).mpr (by rw [List.getElem?_eq_getElem hjl, z']))
    rw [e, e']
theorem TL.joinL_nil : ∀ l : List (List Nat), TL.joinL [] l = joinD l
  | [] => rfl
  | [x] => by simp [TL.joinL, joinD]
  | x :: y :: r => by
    show x ++ ([] ++ TL.joinL [] (y :: r)) = x ++ joinD (y :: r)
    rw [List.nil_append, TL.joinL_nil (y :: r)]
theorem join_txt (ss : List (List Nat)) : Txt.join ⟨⟨[]⟩⟩ (ss.map fun s => (⟨⟨s⟩⟩ : PySem.Str)) = ⟨⟨joinD ss⟩⟩ := by
  unfold Txt.join
  rw [StrLaws.glued_eq_join]
  have h := TL.tl_join (⟨⟨[]⟩⟩ : PySem.Str) (ss.map fun s => (⟨⟨s⟩⟩ : PySem.Str))
  have h2 : (ss.map fun s => (⟨⟨s⟩⟩ : PySem.Str)).map TL.tl = ss := by
    rw [List.map_map]
    exact List.map_id ss
  rw [h2, show TL.tl (⟨⟨[]⟩⟩ : PySem.Str) = [] from rfl, TL.joinL_nil] at h
  generalize Str.join (⟨⟨[]⟩⟩ : PySem.Str) (ss.map fun s => (⟨⟨s⟩⟩ : PySem.Str)) = z at h ⊢
  obtain ⟨⟨l⟩⟩ := z
  have h' : l = joinD ss := h
  rw [h']
theorem sum_len (ss : List (List Nat)) : ((ss.map fun s => (⟨⟨s⟩⟩ : PySem.Str)).map (·.length)).sum = sumLen ss := by
  induction ss with
  | nil => rfl
  | cons x r ih => rw [List.map_cons, List.map_cons, List.sum_cons, ih]; rfl
theorem meD_ex (m : Mf) (x : D) (ds : List D) (n : Nat) (fs : List D) : meD m x ds ≠ .ex n fs := by
  intro e
  unfold meD at e
  split at e
  all_goals repeat' (first | (cases e; done) | split at e)
theorem one_args {F : FT} {x : IE} : evs F (.cons x .nil) G = (ev F x G).bind fun a => .ok [a] := by simp only [evs, Rs.bind_ok]
theorem me_read {c : Cfg} {σ : L2.St} {H : Hp} {Q : VK} {m : Mf} {o x : IE} {r : V → List V → Hp → VK → Prop} (hq : tE c B W G (ev S.F (.me m o (.cons x .nil)) G) σ H Q)
    (hr : ∀ a b v w H1, (∀ z, Zof B G σ z → H z ≠ none) → Same H H1 → RepF c (Zof B G σ) H H1 a v → RepF c (Zof B G σ) H H1 b w → ∀ res, meD m a.2 [b.2] = .ok res → (∀ v H', Same H1 H' → RepF c (Zof B G σ) H H' res v → Q v H') → r v [w] H1 Q) :
    tM1 r (tE c B W G (ev S.F o G)) (tE c B W G (ev S.F x G)) σ H Q := by
  obtain ⟨Su, R⟩ := hq
  simp only [ev, one_args] at R
  show tE _ _ _ _ _ σ H fun v H1 => (∃ a, v = .str a) ∧ tE _ _ _ _ _ σ H1 fun w H2 => r v [w] H2 Q
  cases ea : ev S.F o G with
  | no => rw [ea] at R; exact False.elim R
  | ex n fs => rw [ea] at R; exact ⟨Su, R⟩
  | ok a =>
    rw [ea, Rs.bind_ok] at R
    obtain ⟨f, d⟩ := a
    cases d with
    | str t =>
      rw [if_pos (show recvOk (.str t) = true from rfl)] at R
      refine ⟨Su, fun v H1 s1 rv => ⟨⟨_, rv.str⟩, Su.same s1, ?_⟩⟩
      cases eb : ev S.F x G with
      | no => rw [eb] at R; exact False.elim R
      | ex n fs => rw [eb] at R; exact fun cls dd H' s' e' => R cls dd H' (s1.trans s') e'
      | ok b =>
        rw [eb] at R
        refine fun w H2 s2 rw' => ?_
        have R' : ResE c B (Zof B G σ) W σ H (meD m (.str t) [b.2]) Q := R
        cases e : meD m (.str t) [b.2] with
        | no => rw [e] at R'; exact False.elim R'
        | ex n fs => exact absurd e (meD_ex _ _ _ _ _)
        | ok res =>
          rw [e] at R'
          exact hr (f, .str t) b v w H2 Su.ztr (s1.trans s2) (rv.mono s2) (rw'.back s1) res e fun v H' s' rv => R' v H' ((s1.trans s2).trans s') rv
    | _ => exact False.elim R
/-- l.index(x), flat things or deep ones -/
def rIndexO (K : PySem.W.Frag) : V → List V → Hp → VK → Prop := fun v ys H Q => rIndex K v ys H Q ∨ rIndexD K v ys H Q
theorem mt_indexO (hu : X.A.units + 65 < cLine) : MtR X "list.index" (rIndexO X.K) := fun pins s σ H x xs v us Q I rx rxs h => h.elim (mt_index pins s σ H x xs v us Q I rx rxs) (mt_indexD hu pins s σ H x xs v us Q I rx rxs)
theorem ok_lix (hu : X.A.units + 65 < cLine) {o x : IE} {e a : Expr} {apos cpos : Pos} (hl : (apos.endLine == cpos.line) = true) (hpl : Plain1 a) (hbase : attributeBase e "index" X.env (eval e X.env) = eval e X.env)
    (ho : PE X e (tE (cfg X O) B W G (ev S.F o G))) (hx : PE X a (tE (cfg X O) B W G (ev S.F x G))) : PE X (.Call (.Attribute e "index" apos) [a] [] cpos) (tE (cfg X O) B W G (ev S.F (.lix o x) G)) := by
  have hs : starEach [a] X.env = [(false, eval a X.env)] := star_cons hpl
  refine (pe_bm F.plainAttrs_list F.slot_list_index F.type_list_index (mt_indexO hu) ho (pa_cons hx pa_nil hs) hbase (by rw [hs]; rfl) hl hs rfl).weak fun σ H Q hq => ?_
  simp only [ev] at hq
  refine one_read (T := fun v H1 => tyV X.K "list" v H1 ∧ tE (cfg X O) B W G (ev S.F x G) σ H1 fun y H2 => rIndexO X.K v [y] H2 Q) hq fun a v H1 ea s1 Su zt rv R => ?_
  obtain ⟨fa, da⟩ := a
  cases da with
  | lst ys =>
    obtain ⟨p, vs, rfl, hsq, hrs⟩ := rv.lst
    refine ⟨.inl ⟨rfl, vs, hsq⟩, ?_⟩
    have R := R.later s1
    refine one_read (T := fun y H2 => rIndexO X.K (.ref p) [y] H2 Q) (k := fun b => lixD ys b.2) ⟨Su, R⟩ fun b w H2 eb s2 Su2 zt2 rw' R => ?_
    obtain ⟨fb, db⟩ := b
    have R : ResE (cfg X O) B (Zof B G σ) W σ H1 (lixD ys db) Q := R
    unfold lixD at R
    split at R
    · rename_i hf
      rw [Bool.and_eq_true] at hf
      split at R
      · rename_i i hi
        obtain ⟨h1, h2, h3⟩ := List.findIdx?_eq_some_iff_getElem.mp hi
        have hrs2 := hrs.same s2
        have ew := rw'.flat hf.1
        subst ew
        have fl := (inV_vS hf.1 hrs2 hf.2).1
        have get : ∀ (m : Nat) (z : V), vs[m]? = some z → ∃ d, ys[m]? = some d ∧ flatD d = true ∧ z = vS d := fun m z hz => by
          obtain ⟨d, hd, rd⟩ := hrs2.getV hz
          have hfd := List.all_eq_true.mp hf.2 d (List.mem_of_getElem? hd)
          exact ⟨d, hd, hfd, rd.flat hfd⟩
        obtain ⟨z, hz, _⟩ := hrs2.get (List.getElem?_eq_getElem h1)
        refine .inl ⟨p, vs, _, i, z, rfl, rfl, hsq.imp (fun z => z.imp (fun h => s2.keep _ _ h trivial) fun ⟨o, h⟩ => ⟨o, s2.keep _ _ h trivial⟩) id, flatV_vS hf.1, fl, hz, ?_, fun m z' hm hz' => ?_, R _ _ s2 RepF.mkI⟩
        · obtain ⟨d, hd, fd, rfl⟩ := get i z hz
          rw [List.getElem?_eq_getElem h1] at hd
          cases hd
          rw [eqV_vS hf.1 fd]; exact h2
        · obtain ⟨d, hd, fd, rfl⟩ := get m z' hz'
          have := h3 m hm
          rw [List.getElem?_eq_getElem (by omega)] at hd
          cases hd
          rw [eqV_vS hf.1 fd]
          simpa using this
      · exact False.elim R
    · split at R
      · rename_i hf
        rw [Bool.and_eq_true] at hf
        split at R
        · rename_i i hi
          obtain ⟨h1, h2, h3⟩ := List.findIdx?_eq_some_iff_getElem.mp hi
          have rl : RepF (cfg X O) (Zof B G σ) H H2 (fa, .lst ys) (.ref p) := rv.mono s2
          refine .inr ⟨p, _, _, toPs ys, i, _, rfl, rfl, rl.dp hf.1, rw'.dp hf.2, hf.1, hf.2, List.getElem?_eq_getElem h1, h2, fun m z' hm hz' => ?_, R _ _ s2 RepF.mkI⟩
          have := h3 m hm
          rw [List.getElem?_eq_getElem (by omega)] at hz'
          cases hz'
          simpa using this
        · exact False.elim R
      · exact False.elim R
  | _ => exact False.elim R
theorem ok_me {m : Mf} {o x : IE} {e a : Expr} {y : Str} {apos cpos : Pos} (hm : meName m = y) (hl : (apos.endLine == cpos.line) = true) (hpl : Plain1 a) (hbase : attributeBase e y X.env (eval e X.env) = eval e X.env)
    (ho : PE X e (tE (cfg X O) B W G (ev S.F o G))) (hx : PE X a (tE (cfg X O) B W G (ev S.F x G))) : PE X (.Call (.Attribute e y apos) [a] [] cpos) (tE (cfg X O) B W G (ev S.F (.me m o (.cons x .nil)) G)) := by
  subst hm
  have hs : starEach [a] X.env = [(false, eval a X.env)] := star_cons hpl
  cases m with
  | find =>
    refine (pe_m1 F.slot_str_find F.type_str_find mt_find ho hx hs hbase hl).weak fun σ H Q hq => ?_
    refine me_read hq fun a b v w H1 zt s1 ra rb res e q => ?_
    obtain ⟨fa, a⟩ := a
    obtain ⟨fb, b⟩ := b
    change meD .find a [b] = .ok res at e
    unfold meD at e
    split at e
    · cases e
      rename_i hh1 hh2
      cases hh2
      exact ⟨_, _, ra.str, by rw [rb.str], by rw [find_occ]; exact q _ _ (Same.refl H1) RepF.mkI⟩
    · contradiction
    · cases e
  | join =>
    refine (pe_m1 F.slot_str_join F.type_str_join mt_join ho hx hs hbase hl).weak fun σ H Q hq => ?_
    refine me_read hq fun a b v w H1 zt s1 ra rb res e q => ?_
    obtain ⟨fa, a⟩ := a
    obtain ⟨fb, b⟩ := b
    change meD .join a [b] = .ok res at e
    unfold meD at e
    split at e
    · contradiction
    · rename_i hh1 hh2
      cases hh2
      split at e
      · rename_i ss hss
        split at e
        · rename_i hz
          cases e
          obtain ⟨p, vs, rfl, hl, hr⟩ := rb.lst
          have ev := reps_strsOf hr hss
          subst ev
          refine ⟨_, p, _, ra.str, rfl, .inl hl, ?_, by rw [join_txt]; exact q _ _ (Same.refl H1) RepF.mkS⟩
          rw [sum_len]
          show sumLen ss + _ * 0 ≤ _
          omega
        · cases e
      · cases e
    · cases e
/-! ### own defs -/
mutual
theorem Rep.regrow {c : Cfg} {B Z : Addr → Prop} {H : Hp} (g : ∀ b, Z b → B b ∨ ∃ o, H b = some o ∧ (∀ vs, o ≠ .tup vs) ∧ ∀ ob u, o ≠ .frz ob u) : ∀ {d : D} {v : V}, noL d = true → Rep c B H d v → Rep c Z H d v
  | _, _, _, .non => .non
  | _, _, _, .bl b => .bl b
  | _, _, _, .int i => .int i
  | _, _, _, .str s => .str s
  | _, _, h, .tup t r => .tup (t.imp (fun ⟨z1, z2⟩ => ⟨z1, fun q => (g _ q).elim z2 fun ⟨o, e1, e2, e3⟩ => by
      rcases z1 with z1 | ⟨ob, z1⟩
      · rw [z1] at e1; cases e1; exact e2 _ rfl
      · rw [z1] at e1; cases e1; exact e3 _ _ rfl⟩) id) (Reps.regrow g (by simpa only [noL] using h) r)
  | _, _, h, .lst _ _ => by simp [noL] at h
  | _, _, h, .dctK _ _ _ => by simp [noL] at h
  | _, _, h, .dctT _ _ _ => by simp [noL] at h
  | _, _, h, .opq _ _ => by simp [noL] at h
theorem Reps.regrow {c : Cfg} {B Z : Addr → Prop} {H : Hp} (g : ∀ b, Z b → B b ∨ ∃ o, H b = some o ∧ (∀ vs, o ≠ .tup vs) ∧ ∀ ob u, o ≠ .frz ob u) : ∀ {ds : List D} {vs : List V}, noLs ds = true → Reps c B H ds vs → Reps c Z H ds vs
  | _, _, _, .nil => .nil
  | _, _, h, .cons r t => by
    simp only [noLs, Bool.and_eq_true] at h
    exact .cons (r.regrow g h.1) (t.regrow g h.2)
end
theorem RepK.regrow {c : Cfg} {B Z : Addr → Prop} {H : Hp} (g : ∀ b, Z b → B b ∨ ∃ o, H b = some o ∧ (∀ vs, o ≠ .tup vs) ∧ ∀ ob u, o ≠ .frz ob u) : ∀ {kvs : List (D × D)} {us : List (Leaf × Value)}, (kvs.all fun kv => noL kv.1 && noL kv.2) = true → RepK c B H kvs us → RepK c Z H kvs us
  | _, _, _, .nil => .nil
  | _, _, h, .cons k r ru t => by
    simp only [List.all_cons, Bool.and_eq_true] at h
    exact .cons k (r.regrow g h.1.2) ru (t.regrow g h.2)
theorem RepT.regrow {c : Cfg} {B Z : Addr → Prop} {H : Hp} (g : ∀ b, Z b → B b ∨ ∃ o, H b = some o ∧ (∀ vs, o ≠ .tup vs) ∧ ∀ ob u, o ≠ .frz ob u) : ∀ {kvs : List (D × D)} {us : List (NestedKey × Addr × Value)}, (kvs.all fun kv => noL kv.1 && noL kv.2) = true → RepT c B H kvs us → RepT c Z H kvs us
  | _, _, _, .nil => .nil
  | _, _, h, .cons k dp rk r ru t => by
    simp only [List.all_cons, Bool.and_eq_true] at h
    exact .cons k dp (rk.regrow g h.1.1) (r.regrow g h.1.2) ru (t.regrow g h.2)
/-- what stands at an own list or dict -/
theorem OwnK.kind {o : HO} (h : OwnK o) : (∀ vs, o ≠ .tup vs) ∧ ∀ ob u, o ≠ .frz ob u := ⟨fun vs z => (by rw [z] at h; exact h), fun ob u z => (by rw [z] at h; exact h)⟩
/-- the lent ones -/
def Lent : List (Fl × D) → List V → Addr → Prop
  | x :: xs, v :: vs, b => (x.1 ≠ .val ∧ v = .ref b) ∨ Lent xs vs b
  | _, _, _ => False
theorem lent_kind {c : Cfg} {Z : Addr → Prop} {H H' : Hp} {b : Addr} : ∀ {xs : List (Fl × D)} {vs : List V}, RepsF c Z H H' xs vs → Lent xs vs b → ∃ o, H' b = some o ∧ OwnK o
  | _, _, .nil, h => h.elim
  | (f, d) :: xs, v :: vs, .cons r t, h => by
    rcases h with ⟨h1, h2⟩ | h
    · cases f with
      | val => exact absurd rfl h1
      | tmp =>
        obtain ⟨a, e, o⟩ := r
        rw [h2] at e; cases e
        exact o.some
      | own =>
        obtain ⟨a, e, _, o⟩ := r
        rw [h2] at e; cases e
        exact o.some
    · exact lent_kind t h
theorem lent_reps {c : Cfg} {Z B : Addr → Prop} {H H' : Hp} (hB : ∀ b, B b → Z b) : ∀ {xs : List (Fl × D)} {vs : List V}, RepsF c Z H H' xs vs → (∀ b, Lent xs vs b → ¬ B b) → Reps c B H' (xs.map (·.2)) vs
  | _, _, .nil, _ => .nil
  | (f, d) :: xs, v :: vs, .cons r t, h => by
    refine .cons ?_ (lent_reps hB t fun b z => h b (.inr z))
    cases f with
    | val => exact Rep.less hB r
    | tmp =>
      obtain ⟨a, e, o⟩ := r
      subst e
      exact (o.grow (Z' := B) fun b z => .inl (hB b z)).rep (h a (.inl ⟨(fun z => by cases z), rfl⟩))
    | own =>
      obtain ⟨a, e, _, o⟩ := r
      subst e
      exact (o.grow (Z' := B) fun b z => .inl (.inl (hB b z))).rep (h a (.inl ⟨(fun z => by cases z), rfl⟩))
theorem ok_call (C : CtxB S X O W sc) {n : Nat} {as : IEs} {x : Str} {es : List Expr} {p pos : Pos} (hn : (decide (S.nm n = x) && S.us.contains n && isGl sc x && plainN x) = true) (hne : es.isEmpty = false) (ha : okA S as sc es = true)
    (h : PA X es (tA (cfg X O) B W G (evs S.F as G))) : PE X (.Call (.Name x p) es [] pos) (tE (cfg X O) B W G (ev S.F (.call n as) G)) := by
  simp only [Bool.and_eq_true, decide_eq_true_eq] at hn
  obtain ⟨⟨⟨h1, h2⟩, h3⟩, h4⟩ := hn
  subst h1
  obtain ⟨f, fd, ps, hm, hk, hb, F⟩ := C.fs n h2
  obtain ⟨p1, p2, p3⟩ := plainN_of h4
  cases es with
  | nil => cases hne
  | cons e es =>
    have hs : starEach (e :: es) X.env = (false, eval e X.env) :: starEach es X.env := by
      cases as with
      | nil => simp [okA] at ha
      | cons x as => simp only [okA, Bool.and_eq_true] at ha; exact star_cons (okE_plain ha.1)
    have hpl : (backTo pos (starEach es X.env)).any (·.1) = false := by
      cases as with
      | nil => simp [okA] at ha
      | cons x as => simp only [okA, Bool.and_eq_true] at ha; exact okA_back ha.2
    refine (pe_callS F C.room (C.gl h3) hm hk hb (fun σ => passAt C.tk σ) h p1 hs hpl).weak fun σ H Q hq => ?_
    refine args_read (T := fun vs H1 => spOf (cfg X O) (S.F n) vs H1 Q (WE W σ)) hq fun xs vs H1 ea s1 Su zt rs R => ?_
    split at R
    · rename_i hkp
      refine ⟨Zof B G σ, xs.map (·.2), Su.ztr, Su.tab, rs.keep hkp zt, ?_⟩
      cases e : S.F n (xs.map (·.2)) with
      | no => rw [e] at R; exact False.elim R
      | ex c fs => rw [e] at R; exact fun cls dd H' s' e' => R cls dd H' (s1.trans s') e'
      | ok r =>
        rw [e] at R
        obtain ⟨o, d⟩ := r
        refine fun v H' s' rv => R v H' (s1.trans s') ?_
        exact RepF.back rv s1
    · refine ⟨fun b => Zof B G σ b ∧ ¬ Lent xs vs b, xs.map (·.2), fun a z => Su.ztr a z.1, Su.tab, lent_reps (fun b z => z.1) rs fun b z q => q.2 z, ?_⟩
      have gr : ∀ {H' : Hp}, Same H1 H' → ∀ b, Zof B G σ b → (Zof B G σ b ∧ ¬ Lent xs vs b) ∨ ∃ o, H' b = some o ∧ (∀ vs, o ≠ .tup vs) ∧ ∀ ob u, o ≠ .frz ob u := fun s' b z => by
        by_cases q : Lent xs vs b
        · obtain ⟨o, e1, e2⟩ := lent_kind rs q
          exact .inr ⟨o, s'.keep _ _ e1 e2.noT, e2.kind⟩
        · exact .inl ⟨z, q⟩
      cases e : S.F n (xs.map (·.2)) with
      | no => rw [e] at R; exact False.elim R
      | ex c fs => rw [e] at R; exact False.elim R
      | ok r =>
        rw [e] at R
        obtain ⟨o, d⟩ := r
        have R : ResE (cfg X O) B (Zof B G σ) W σ H (if lendOk (o, d) = true then .ok (if o = true then .own else .val, d) else .no) Q := R
        split at R
        · rename_i hle
          refine fun v H' s' rv => R v H' (s1.trans s') ?_
          cases o with
          | true =>
            obtain ⟨a, e1, e2, e3⟩ := rv
            have e2' : H a = none := s1.free e2
            refine ⟨a, e1, e2', ?_⟩
            have gr2 : ∀ b, (Zof B G σ b ∨ b = a) → ((Zof B G σ b ∧ ¬ Lent xs vs b) ∨ b = a) ∨ ∃ o, H' b = some o ∧ (∀ vs, o ≠ .tup vs) ∧ ∀ ob u, o ≠ .frz ob u := fun b z => by
              rcases z with z | z
              · exact (gr s' b z).imp .inl id
              · exact .inl (.inr z)
            cases e3 with
            | lst h r => exact .lst h (r.regrow gr2 hle)
            | dctK h r => exact .dctK h (r.regrow gr2 hle)
            | dctT h r => exact .dctT h (r.regrow gr2 hle)
          | false => exact Rep.regrow (gr s') hle rv
        · exact False.elim R
end
end RA
/-! RAZ: zip of two lists, tuples, texts, in any mix. -/
namespace RA
open PySem PySem.Spec PyProof.Rows L2
variable [Tabs]
/-- a source of items -/
inductive Src where
  | lst (a : Addr) | tup (a : Addr) | txt (x : Str)
def Src.v : Src → V
  | .lst a => .ref a | .tup a => .ref a | .txt x => .str x
def Src.off (b : Addr) : Src → Prop
  | .lst a => a ≠ b | .tup a => a ≠ b | .txt _ => True
def SrcAt (K : PySem.W.Frag) (H : Hp) : Src → List V → Prop
  | .lst a, xs => SqL K H a xs
  | .tup a, xs => SqT K H a xs
  | .txt x, xs => xs = x.cps.toList.map fun c => V.str ⟨#[c]⟩
def StI : Src → Addr → Nat → Heap → Prop
  | .lst a, it, i, h => h.IsListIter it a i
  | .tup a, it, i, h => h.IsTupleIter it a i
  | .txt x, it, i, h => ∃ t, h.IsStrIter it (strIterType x) x t i
theorem StI.obj {r : Src} {it : Addr} {i : Nat} {h : Heap} (st : StI r it i h) : ∃ o, h.get? it = some o ∧ ∀ v, o.data ≠ .cell v := by
  cases r with
  | lst a => obtain ⟨o, e, _, d⟩ := st; exact ⟨o, e, fun v q => by rw [d] at q; cases q⟩
  | tup a => obtain ⟨o, e, _, d⟩ := st; exact ⟨o, e, fun v q => by rw [d] at q; cases q⟩
  | txt x => obtain ⟨t, o, e, _, d⟩ := st; exact ⟨o, e, fun v q => by rw [d] at q; cases q⟩
theorem StI.at {r : Src} {it : Addr} {i : Nat} {h h' : Heap} (st : StI r it i h) (k : ∀ o, h.get? it = some o → h'.get? it = some o) : StI r it i h' := by
  cases r with
  | lst a => exact Heap.IsListIter.at st k
  | tup a => exact Heap.IsTupleIter.at st k
  | txt x => obtain ⟨t, o, e, q⟩ := st; exact ⟨t, o, k o e, q⟩
section
variable {X : Cx} {pins : List (Addr × Obj)} {σ : L2.St} {H : Hp} {s : Shared} {r : Src} {xs ys : List V}
theorem SrcAt.inj (I : Inv X pins σ H s) (h : SrcAt X.K H r xs) (h' : SrcAt X.K H r ys) : xs = ys := by
  cases r with
  | lst a => exact I.list_inj h h'
  | tup a => exact I.tuple_inj h h'
  | txt x => exact Eq.trans h (Eq.symm h')
/-- how it begins -/
theorem SrcAt.begins {u : Value} (I : Inv X pins σ H s) (h : SrcAt X.K H r xs) (ru : RelV r.v u) : ∃ (o : Obj) (Hh : Heap → Prop), Begins u o Hh ∧ Hh s.heap ∧ (∀ (h' : Heap) (it : Addr), h'.get? it = some o → StI r it 0 h') ∧ ∀ b, s.heap.objs.size ≤ b → r.off b := by
  cases r with
  | lst a =>
    obtain ⟨its, rv, p, _⟩ := I.list h
    cases ru
    exact ⟨_, _, begins_list a its.toArray, p.isList, fun h' it e => ⟨_, e, rfl, rfl⟩, fun b hb => Nat.ne_of_lt (Nat.lt_of_lt_of_le p.lt hb)⟩
  | tup a =>
    obtain ⟨its, rv, p, _⟩ := I.tuple h
    obtain ⟨o1, ho1, _⟩ := id p
    cases ru
    exact ⟨_, _, begins_tuple a its.toArray, (show s.heap.IsTuple a its.toArray from p), fun h' it e => ⟨_, e, rfl, rfl⟩, fun b hb => Nat.ne_of_lt (Nat.lt_of_lt_of_le (Heap.lt_size ho1) hb)⟩
  | txt x =>
    obtain ⟨t, rfl⟩ := ru
    exact ⟨_, _, begins_text x t, trivial, fun h' it e => ⟨t, _, e, rfl, rfl⟩, fun b _ => trivial⟩
/-- what it draws -/
theorem SrcAt.draws {it : Addr} {i : Nat} (I : Inv X pins σ H s) (hc : X.calm = true) (h : SrcAt X.K H r xs) (hf : r.off it) (st : StI r it i s.heap) :
    ∃ (fp : List Addr) (Pv : Nat → Value → Prop) (St : Nat → Heap → Prop), Draws X.prog X.w X.A.in1 it fp xs.length Pv St ∧ St i s.heap ∧ (∀ j v, Pv j v → ∃ x, xs[j]? = some x ∧ RelV x v) ∧ (∀ j h, St j h → StI r it j h) ∧ it ∈ fp ∧ ∀ b, r.off b → b ≠ it → b ∉ fp := by
  have hd : X.A.in1.handled = none := I.ok.hd hc
  cases r with
  | lst a =>
    obtain ⟨its, rv, p, _⟩ := I.list h
    have hl := rv.length
    refine ⟨[it, a], (fun i v => its.toArray[i]? = some v), (fun i h => h.IsListIter it a i ∧ h.IsList a its.toArray), by rw [hl]; exact Draws.list hd it a hf its.toArray, ⟨st, p.isList⟩, fun j v q => ?_, fun j h z => z.1, by simp, fun b ob nb => by simp [nb, Ne.symm ob]⟩
    have q' : its[j]? = some v := by simpa using q
    have hj : j < xs.length := by rw [hl]; exact (List.getElem?_eq_some_iff.mp q').1
    obtain ⟨u, hu, ru⟩ := rv.get (List.getElem?_eq_getElem hj)
    rw [hu] at q'; cases q'
    exact ⟨_, List.getElem?_eq_getElem hj, ru⟩
  | tup a =>
    obtain ⟨its, rv, p, _⟩ := I.tuple h
    have hl := rv.length
    refine ⟨[it, a], (fun i v => its.toArray[i]? = some v), (fun i h => h.IsTupleIter it a i ∧ h.IsTuple a its.toArray), by rw [hl]; exact Draws.tuple hd it a hf its.toArray, ⟨st, p⟩, fun j v q => ?_, fun j h z => z.1, by simp, fun b ob nb => by simp [nb, Ne.symm ob]⟩
    have q' : its[j]? = some v := by simpa using q
    have hj : j < xs.length := by rw [hl]; exact (List.getElem?_eq_some_iff.mp q').1
    obtain ⟨u, hu, ru⟩ := rv.get (List.getElem?_eq_getElem hj)
    rw [hu] at q'; cases q'
    exact ⟨_, List.getElem?_eq_getElem hj, ru⟩
  | txt x =>
    have h' : xs = x.cps.toList.map fun c => V.str ⟨#[c]⟩ := h
    subst h'
    obtain ⟨t, st⟩ := st
    refine ⟨[it], (fun i v => ∃ c u, x.cps[i]? = some c ∧ v = .str ⟨#[c]⟩ u), (fun i h => h.IsStrIter it (strIterType x) x t i), by rw [List.length_map, Array.length_toList]; exact Draws.text hd it x t, st, fun j v q => ?_, fun j h z => ⟨t, z⟩, by simp, fun b ob nb => by simp [nb]⟩
    obtain ⟨c, u, hc', rfl⟩ := q
    refine ⟨.str ⟨#[c]⟩, ?_, u, rfl⟩
    rw [List.getElem?_map, Array.getElem?_toList, hc']; rfl
end
/-- the two as they stand at each turn, the items in new pairs -/
def ItzS (K : PySem.W.Frag) (r1 r2 : Src) : It :=
  ⟨fun i H => ∃ (xs ys : List V), SrcAt K H r1 xs ∧ SrcAt K H r2 ys ∧ i < xs.length ∧ i < ys.length,
    fun i H v H' => ∃ T x y, v = .ref T ∧ H T = none ∧ H' = upd H T (.tup [x, y]) ∧ (∀ xs, SrcAt K H r1 xs → xs[i]? = some x) ∧ ∀ ys, SrcAt K H r2 ys → ys[i]? = some y,
    fun i H => ∃ xs ys : List V, SrcAt K H r1 xs ∧ SrcAt K H r2 ys ∧ i ≤ xs.length ∧ i ≤ ys.length ∧ (i = xs.length ∨ i = ys.length)⟩
structure ZAp (z TI TO i1 i2 : Addr) (r1 r2 : Src) : Prop where
  TIz : TI ≠ z
  TOz : TO ≠ z
  TITO : TI ≠ TO
  TIi1 : TI ≠ i1
  TIi2 : TI ≠ i2
  TOi1 : TO ≠ i1
  TOi2 : TO ≠ i2
  zi1 : z ≠ i1
  zi2 : z ≠ i2
  i12 : i1 ≠ i2
  o1 : r1.off z ∧ r1.off TO ∧ r1.off i1 ∧ r1.off i2
  o2 : r2.off z ∧ r2.off TO ∧ r2.off i1 ∧ r2.off i2
theorem turn_zipS {P : Program} {w : World} {K : PySem.W.Frag} {elts : List Expr} {kk : Nat} {tpos : Pos} {z TI TO i1 i2 : Addr} {r1 r2 : Src} (D : ZAp z TI TO i1 i2 r1 r2) :
    Turn P w K (.Tuple elts kk tpos) (ItzS K r1 r2) [z, TI, TO, i1, i2] z (fun i h => IsZip h z TI TO .none ∧ IsTupOf2 h TI (.ref i1) (.ref i2) ∧ (∃ x y, IsTupOf2 h TO x y) ∧ StI r1 i1 i h ∧ StI r2 i2 i h) where
  mem := by simp
  obj := fun i h st c hc => by
    obtain ⟨hz, hTI, ⟨x, y, hTO⟩, s1, s2⟩ := st
    simp only [List.mem_cons, List.not_mem_nil, or_false] at hc
    rcases hc with q | q | q | q | q
    · rw [q]; exact ⟨_, hz, fun v q => nomatch q⟩
    · rw [q]; exact ⟨_, hTI, fun v q => nomatch q⟩
    · rw [q]; exact ⟨_, hTO, fun v q => nomatch q⟩
    · rw [q]; exact s1.obj
    · rw [q]; exact s2.obj
  keep := fun i h h' st k => by
    obtain ⟨hz, hTI, ⟨x, y, hTO⟩, h1, h2⟩ := st
    exact ⟨k z (by simp) _ hz, k TI (by simp) _ hTI, ⟨x, y, k TO (by simp) _ hTO⟩, h1.at fun o q => k i1 (by simp) o q, h2.at fun o q => k i2 (by simp) o q⟩
  item := by
    intro X hP hw hK hc i pins s σ H E I hf st hg
    subst hP hw hK
    obtain ⟨hz, hTI, ⟨x0, y0, hTO⟩, h1, h2⟩ := st
    obtain ⟨xs, ys, hqx, hqy, hx, hy⟩ := hg
    obtain ⟨fp1, P1, S1, D1, st1, r1', b1, m1, n1⟩ := hqx.draws I hc D.o1.2.2.1 h1
    obtain ⟨fp2, P2, S2, D2, st2, r2', b2, m2, n2⟩ := hqy.draws I hc D.o2.2.2.2 h2
    have hzl : z < s.heap.objs.size := Heap.lt_size hz
    have Sp : ZipSep2 z TI TO i1 i2 fp1 fp2 := ⟨D.TIz, D.TOz, D.TITO, D.TIi1, m1, n1 z D.o1.1 D.zi1, n1 TO D.o1.2.1 D.TOi1, D.TIi2, m2, n2 z D.o2.1 D.zi2, n2 TO D.o2.2.1 D.TOi2, n2 i1 D.o2.2.2.1 D.i12, n1 i2 D.o1.2.2.2 (Ne.symm D.i12)⟩
    refine wpAny_pyNext_zipD2_item Sp D1 D2 hz hTI hTO st1 st2 hx hy fun u u2 h' tk p1 p2 z' TO' s1' s2' hT hsz hk => ?_
    obtain ⟨x, gx, ru⟩ := r1' i u p1
    obtain ⟨y, gy, ru2⟩ := r2' i u2 p2
    refine ⟨_, rfl, wpAny_letOwnedTupleGo_zip (s := { s with heap := h', toks := tk }) z' fun h'' z'' sb => ?_⟩
    have hT2 : h''.get? s.heap.objs.size = some { cls := .type "tuple", data := .seq #[u, u2] } := (sb.2 _ (Nat.ne_of_gt hzl)).trans hT
    have new : ObjOk X.prog X.w (upd H s.heap.objs.size (.tup [x, y])) h'' s.heap.objs.size (.tup [x, y]) :=
      ⟨by show 2 ≤ sizeLine; decide, [u, u2], .cons ru (.cons ru2 .nil), ⟨_, hT2, rfl, _, rfl⟩⟩
    have I1 : Inv X pins σ (upd H s.heap.objs.size (.tup [x, y])) { s with heap := h'', toks := tk } :=
      I.turnedNew (t' := tk) (ch := [z, TI, TO, i1, i2]) (fun c o hb q => (sb.2 c (fun q' => hb (by simp [q']))).trans (hk c o (fun q' => hb (by simp [q'])) (fun q' => hb (by simp [q'])) (fun q' => hb (by simp [q'])) (fun q' => hb (by simp [q'])) q)) hf (Nat.le_refl _) new
    refine ⟨.ref s.heap.objs.size, _, I1, rfl, ⟨_, x, y, rfl, I.hok.fresh (Nat.le_refl _), rfl, fun l hl => by rw [hl.inj I hqx]; exact gx, fun l hl => by rw [hl.inj I hqy]; exact gy⟩, ⟨z'', ?_, ⟨u, u2, ?_⟩, ?_, ?_⟩, fun c hcm => ?_⟩
    · exact (sb.2 _ D.TIz).trans (hk _ _ D.TIz D.TITO D.TIi1 D.TIi2 hTI)
    · exact (sb.2 _ D.TOz).trans TO'
    · exact (b1 _ _ s1').at fun o q => (sb.2 _ (Ne.symm D.zi1)).trans q
    · exact (b2 _ _ s2').at fun o q => (sb.2 _ (Ne.symm D.zi2)).trans q
    · have hlt : c < s.heap.objs.size := by
        simp only [List.mem_cons, List.not_mem_nil, or_false] at hcm
        rcases hcm with q | q | q | q | q
        · rw [q]; exact hzl
        · rw [q]; exact Heap.lt_size hTI
        · rw [q]; exact Heap.lt_size hTO
        · rw [q]; obtain ⟨_, e1, _⟩ := h1.obj; exact Heap.lt_size e1
        · rw [q]; obtain ⟨_, e2, _⟩ := h2.obj; exact Heap.lt_size e2
      rw [upd_ne (Nat.ne_of_lt hlt)]
      exact (hf c hcm).1
  done := by
    intro X hP hw hK hc i pins s σ H E I hf st hg
    subst hP hw hK
    obtain ⟨hz, hTI, ⟨x0, y0, hTO⟩, h1, h2⟩ := st
    obtain ⟨xs, ys, hqx, hqy, hl1, hl2, hend⟩ := hg
    obtain ⟨fp1, P1, S1, D1, st1, r1', b1, m1, n1⟩ := hqx.draws I hc D.o1.2.2.1 h1
    obtain ⟨fp2, P2, S2, D2, st2, r2', b2, m2, n2⟩ := hqy.draws I hc D.o2.2.2.2 h2
    have Sp : ZipSep2 z TI TO i1 i2 fp1 fp2 := ⟨D.TIz, D.TOz, D.TITO, D.TIi1, m1, n1 z D.o1.1 D.zi1, n1 TO D.o1.2.1 D.TOi1, D.TIi2, m2, n2 z D.o2.1 D.zi2, n2 TO D.o2.2.1 D.TOi2, n2 i1 D.o2.2.2.1 D.i12, n1 i2 D.o1.2.2.2 (Ne.symm D.i12)⟩
    exact wpAny_pyNext_zipD2_end Sp D1 D2 hz hTI hTO st1 st2 hl1 hl2 hend fun h' tk hk => ⟨rfl, I.turnedL (t' := tk) (ch := [z, TI, TO, i1, i2]) (fun c o hb q =>
      hk c o (fun q' => hb (by simp [q'])) (fun q' => hb (by simp [q'])) (fun q' => hb (by simp [q'])) (fun q' => hb (by simp [q'])) q) hf⟩
  self := fun A i s Q E st h => wpAny_pyIter_zip st.1 h
theorem nn (n a b : Nat) (h : a ≠ b) : n + a ≠ n + b := by omega
def iZipS (K : PySem.W.Frag) (ta : TA) : TI := fun σ H R => ta σ H fun vs H1 => ∃ r1 r2 xs ys, vs = [r1.v, r2.v] ∧ SrcAt K H1 r1 xs ∧ SrcAt K H1 r2 ys ∧ R (ItzS K r1 r2) H1
theorem pi_zipS {X : Cx} {e e2 : Expr} {ta : TA} {p pos tpos : Pos} {elts : List Expr} {kk : Nat} (hg : Gl X "zip") (hm : X.mg "zip" = none) (ha : PA X [e, e2] ta)
    (hs : starEach [e, e2] X.env = (false, eval e X.env) :: starEach [e2] X.env) (hpl : (backTo pos (starEach [e2] X.env)).any (·.1) = false) :
    PI X (.Tuple elts kk tpos) (.Call (.Name "zip" p) [e, e2] [] pos) (iZipS X.K ta) := by
  refine ⟨fun pins s σ H R I h => ?_⟩
  refine Call_ (ld_blt I hg hm PyProof.Rows.boot_zip (PyProof.Rows.callWith_type1 (thn (ha.run pos pins s σ H _ I h) fun us s1 ⟨vs, H1, I1, rr, q1⟩ => ?_) hs hpl))
  obtain ⟨r1, r2, xs, ys, ex, hqx, hqy, q⟩ := q1
  subst ex
  cases rr with
  | cons ra rr =>
    cases rr with
    | cons rb rr =>
      cases rr
      obtain ⟨o1, Hh1, B1, g1, k1, f1⟩ := hqx.begins I1 ra
      obtain ⟨o2, Hh2, B2, g2, k2, f2⟩ := hqy.begins I1 rb
      refine zip_begins2 B1 B2 g1 g2 fun h' hz hTI hTO e1 e2 hsz hk => wpAny_pyIter_zip hz ?_
      have I2 : Inv X pins σ H1 { s1 with heap := h' } := I1.kept (t' := s1.toks) hk
      have ap : ZAp (s1.heap.objs.size + 4) (s1.heap.objs.size + 2) (s1.heap.objs.size + 3) s1.heap.objs.size (s1.heap.objs.size + 1) r1 r2 :=
        ⟨nn _ 2 4 (by decide), nn _ 3 4 (by decide), nn _ 2 3 (by decide), nn _ 2 0 (by decide), nn _ 2 1 (by decide), nn _ 3 0 (by decide), nn _ 3 1 (by decide), nn _ 4 0 (by decide), nn _ 4 1 (by decide), nn _ 0 1 (by decide), ⟨f1 _ (Nat.le_add_right _ _), f1 _ (Nat.le_add_right _ _), f1 _ (Nat.le_refl _), f1 _ (Nat.le_add_right _ _)⟩, ⟨f2 _ (Nat.le_add_right _ _), f2 _ (Nat.le_add_right _ _), f2 _ (Nat.le_refl _), f2 _ (Nat.le_add_right _ _)⟩⟩
      refine ⟨s1.heap.objs.size + 4, [s1.heap.objs.size + 4, s1.heap.objs.size + 2, s1.heap.objs.size + 3, s1.heap.objs.size, s1.heap.objs.size + 1], _, _, H1, rfl, I2, turn_zipS ap, ⟨hz, hTI, ⟨_, _, hTO⟩, k1 _ _ e1, k2 _ _ e2⟩, fun c hcm => ?_, q⟩
      have hle : s1.heap.objs.size ≤ c := by
        simp only [List.mem_cons, List.not_mem_nil, or_false] at hcm
        rcases hcm with z | z | z | z | z <;> rw [z] <;> first | exact Nat.le_refl _ | exact Nat.le_add_right _ _
      exact I1.fpOk hle (I1.hok.fresh hle)
end RA
/-! RA9: how the state changes; what is walked. -/
namespace RA
open PySem PySem.Spec PyProof.Rows L2
variable [Tabs]
theorem get_set {α : Type} {l : List α} {i j : Nat} {x y : α} (h : (l.set i x)[j]? = some y) : (j = i ∧ x = y ∧ i < l.length) ∨ (j ≠ i ∧ l[j]? = some y) := by
  by_cases e : j = i
  · subst e
    by_cases hl : j < l.length
    · rw [List.getElem?_set_self hl] at h
      exact .inl ⟨rfl, Option.some.inj h, hl⟩
    · rw [List.getElem?_eq_none (by rw [List.length_set]; omega)] at h; cases h
  · rw [List.getElem?_set_ne (fun z => e z.symm)] at h
    exact .inr ⟨e, h⟩
section
variable {c : Cfg} {B : Addr → Prop} {G : Ev} {σ : L2.St} {H H' : Hp} {i : Nat} {d : D} {v : V} {a : Addr}
theorem own_set (h : Owned (G.set i (some (false, d))) (σ.set i (some v)) a) : Owned G σ a := by
  obtain ⟨j, d', h1, h2⟩ := h
  rcases get_set h1 with ⟨rfl, e, _⟩ | ⟨ne, e⟩
  · cases e
  · rw [List.getElem?_set_ne (fun z => ne z.symm)] at h2
    exact ⟨j, d', e, h2⟩
theorem StOk.set (Su : StOk c B G σ H) (r : Rep c (Zof B G σ) H d v) : StOk c B (G.set i (some (false, d))) (σ.set i (some v)) H := by
  have lz : ∀ b, Zof B (G.set i (some (false, d))) (σ.set i (some v)) b → Zof B G σ b := fun b h => h.imp id own_set
  have oat : ∀ j b, ownedAt (G.set i (some (false, d))) (σ.set i (some v)) j b → ownedAt G σ j b := fun j b ⟨d', h1, h2⟩ => by
    rcases get_set h1 with ⟨rfl, e, _⟩ | ⟨ne, e⟩
    · cases e
    · rw [List.getElem?_set_ne (fun z => ne z.symm)] at h2
      exact ⟨d', e, h2⟩
  refine ⟨by rw [List.length_set, List.length_set, Su.len], Su.tr, Su.tab, fun b h => Su.apart b (own_set h), fun j k b h1 h2 => Su.uniq j k b (oat j b h1) (oat k b h2), fun j d' e => ?_, fun j d' e => ?_⟩
  · rcases get_set e with ⟨rfl, e, hl⟩ | ⟨ne, e⟩
    · cases e
      exact ⟨v, List.getElem?_set_self (by rw [← Su.len]; exact hl), r.less lz⟩
    · obtain ⟨w, h1, h2⟩ := Su.val j d' e
      exact ⟨w, by rw [List.getElem?_set_ne (fun z => ne z.symm)]; exact h1, h2.less lz⟩
  · rcases get_set e with ⟨rfl, e, hl⟩ | ⟨ne, e⟩
    · cases e
    · obtain ⟨w, h1, h2⟩ := Su.own j d' e
      exact ⟨w, by rw [List.getElem?_set_ne (fun z => ne z.symm)]; exact h1, h2.grow fun b z => .inl (lz b z)⟩
theorem own_clr {σ' : L2.St} (hs : ∀ j, j ≠ i → σ'[j]? = σ[j]?) (h : Owned (G.set i none) σ' a) : Owned G σ a := by
  obtain ⟨j, d', h1, h2⟩ := h
  rcases get_set h1 with ⟨rfl, e, _⟩ | ⟨ne, e⟩
  · cases e
  · rw [hs j ne] at h2
    exact ⟨j, d', e, h2⟩
theorem StOk.clr {σ' : L2.St} (Su : StOk c B G σ H) (hl : σ'.length = σ.length) (hs : ∀ j, j ≠ i → σ'[j]? = σ[j]?) : StOk c B (G.set i none) σ' H := by
  have lz : ∀ b, Zof B (G.set i none) σ' b → Zof B G σ b := fun b h => h.imp id (own_clr hs)
  have oat : ∀ j b, ownedAt (G.set i none) σ' j b → ownedAt G σ j b := fun j b ⟨d', h1, h2⟩ => by
    rcases get_set h1 with ⟨rfl, e, _⟩ | ⟨ne, e⟩
    · cases e
    · rw [hs j ne] at h2
      exact ⟨d', e, h2⟩
  refine ⟨by rw [List.length_set, hl, Su.len], Su.tr, Su.tab, fun b h => Su.apart b (own_clr hs h), fun j k b h1 h2 => Su.uniq j k b (oat j b h1) (oat k b h2), fun j d' e => ?_, fun j d' e => ?_⟩
  · rcases get_set e with ⟨rfl, e, _⟩ | ⟨ne, e⟩
    · cases e
    · obtain ⟨w, h1, h2⟩ := Su.val j d' e
      exact ⟨w, by rw [hs j ne]; exact h1, h2.less lz⟩
  · rcases get_set e with ⟨rfl, e, _⟩ | ⟨ne, e⟩
    · cases e
    · obtain ⟨w, h1, h2⟩ := Su.own j d' e
      exact ⟨w, by rw [hs j ne]; exact h1, h2.grow fun b z => .inl (lz b z)⟩
theorem own_own (h : Owned (G.set i (some (true, d))) (σ.set i (some (.ref a))) b) : Owned G σ b ∨ b = a := by
  obtain ⟨j, d', h1, h2⟩ := h
  rcases get_set h1 with ⟨rfl, e, _⟩ | ⟨ne, e⟩
  · rcases get_set h2 with ⟨_, e, _⟩ | ⟨ne, _⟩
    · injection e with e; injection e with e; exact .inr e.symm
    · exact absurd rfl ne
  · rw [List.getElem?_set_ne (fun z => ne z.symm)] at h2
    exact .inl ⟨j, d', e, h2⟩
/-- a new own list or dict at i -/
theorem StOk.own' (Su : StOk c B G σ H) (s : Same H H') (n : H a = none) (o : OwnAt c (fun b => Zof B G σ b ∨ b = a) H' d a) : StOk c B (G.set i (some (true, d))) (σ.set i (some (.ref a))) H' := by
  have lz : ∀ b, Zof B (G.set i (some (true, d))) (σ.set i (some (.ref a))) b → Zof B G σ b ∨ b = a := fun b h => h.elim (fun z => .inl (.inl z)) fun z => (own_own z).imp .inr id
  have gz : ∀ b, Zof B (G.set i (some (true, d))) (σ.set i (some (.ref a))) b → Zof B G σ b ∨ H b = none := fun b h => (lz b h).imp id (fun e => by rw [e]; exact n)
  have no : ¬ Zof B G σ a := fun z => Su.ztr a z n
  have oat : ∀ j b, ownedAt (G.set i (some (true, d))) (σ.set i (some (.ref a))) j b → (j = i ∧ b = a) ∨ (j ≠ i ∧ ownedAt G σ j b) := fun j b ⟨d', h1, h2⟩ => by
    rcases get_set h1 with ⟨rfl, e, _⟩ | ⟨ne, e⟩
    · rcases get_set h2 with ⟨_, e, _⟩ | ⟨ne, _⟩
      · injection e with e; injection e with e; exact .inl ⟨rfl, e.symm⟩
      · exact absurd rfl ne
    · rw [List.getElem?_set_ne (fun z => ne z.symm)] at h2
      exact .inr ⟨ne, d', e, h2⟩
  have Ss := Su.same s
  refine ⟨by rw [List.length_set, List.length_set, Su.len], Ss.tr, Ss.tab, fun b h hb => ?_, fun j k b h1 h2 => ?_, fun j d' e => ?_, fun j d' e => ?_⟩
  · rcases own_own h with z | z
    · exact Su.apart b z hb
    · exact no (.inl (z ▸ hb))
  · rcases oat j b h1 with ⟨e1, e2⟩ | ⟨e1, e2⟩
    · rcases oat k b h2 with ⟨e3, e4⟩ | ⟨e3, e4⟩
      · rw [e1, e3]
      · exact absurd (.inr ⟨k, e2 ▸ e4⟩) no
    · rcases oat k b h2 with ⟨e3, e4⟩ | ⟨e3, e4⟩
      · exact absurd (.inr ⟨j, e4 ▸ e2⟩) no
      · exact Su.uniq j k b e2 e4
  · rcases get_set e with ⟨rfl, e, hl⟩ | ⟨ne, e⟩
    · cases e
    · obtain ⟨w, h1, h2⟩ := Su.val j d' e
      exact ⟨w, by rw [List.getElem?_set_ne (fun z => ne z.symm)]; exact h1, (h2.grow gz).same s⟩
  · rcases get_set e with ⟨rfl, e, hl⟩ | ⟨ne, e⟩
    · cases e
      exact ⟨a, List.getElem?_set_self (by rw [← Su.len]; exact hl), o.grow fun b z => .inl (lz b z)⟩
    · obtain ⟨w, h1, h2⟩ := Su.own j d' e
      exact ⟨w, by rw [List.getElem?_set_ne (fun z => ne z.symm)]; exact h1, (h2.grow gz).same s⟩
/-- given away -/
theorem StOk.frz (Su : StOk c B G σ H) (e : G[i]? = some (some (true, d))) : StOk c B (G.set i (some (false, d))) σ H ∧ ∀ b, Owned (G.set i (some (false, d))) σ b → Owned G σ b := by
  obtain ⟨a, h1, h2⟩ := Su.own i d e
  have oat : ∀ j b, ownedAt (G.set i (some (false, d))) σ j b → j ≠ i ∧ ownedAt G σ j b := fun j b ⟨d', h1, h2⟩ => by
    rcases get_set h1 with ⟨rfl, e, _⟩ | ⟨ne, e⟩
    · cases e
    · exact ⟨ne, d', e, h2⟩
  have lo : ∀ b, Owned (G.set i (some (false, d))) σ b → Owned G σ b := fun b ⟨j, h⟩ => ⟨j, (oat j b h).2⟩
  have lz : ∀ b, Zof B (G.set i (some (false, d))) σ b → Zof B G σ b := fun b h => h.imp id (lo b)
  have na : ¬ Zof B (G.set i (some (false, d))) σ a := fun z => by
    rcases z with z | ⟨j, z⟩
    · exact Su.apart a ⟨i, d, e, h1⟩ z
    · obtain ⟨ne, z⟩ := oat j a z
      exact ne (Su.uniq j i a z ⟨d, e, h1⟩)
  refine ⟨⟨by rw [List.length_set, Su.len], Su.tr, Su.tab, fun b h => Su.apart b (lo b h), fun j k b h1 h2 => Su.uniq j k b (oat j b h1).2 (oat k b h2).2, fun j d' e' => ?_, fun j d' e' => ?_⟩, lo⟩
  · rcases get_set e' with ⟨rfl, e', hl⟩ | ⟨ne, e'⟩
    · cases e'
      exact ⟨.ref a, h1, (h2.grow fun b z => .inl (lz b z)).rep na⟩
    · obtain ⟨w, h1, h2⟩ := Su.val j d' e'
      exact ⟨w, h1, h2.less lz⟩
  · rcases get_set e' with ⟨rfl, e', hl⟩ | ⟨ne, e'⟩
    · cases e'
    · obtain ⟨w, h1, h2⟩ := Su.own j d' e'
      exact ⟨w, h1, h2.grow fun b z => .inl (lz b z)⟩
/-- written -/
theorem StOk.wr {d' : D} (Su : StOk c B G σ H) (e : G[i]? = some (some (true, d))) (hs : σ[i]? = some (some (.ref a))) (hx : ∀ b, b ≠ a → H b ≠ none → H' b = H b) (o : OwnAt c (Zof B G σ) H' d' a) : StOk c B (G.set i (some (true, d'))) σ H' ∧ ∀ b, Owned (G.set i (some (true, d'))) σ b → Owned G σ b := by
  have oat : ∀ j b, ownedAt (G.set i (some (true, d'))) σ j b → ownedAt G σ j b := fun j b ⟨d2, h1, h2⟩ => by
    rcases get_set h1 with ⟨rfl, e', _⟩ | ⟨ne, e'⟩
    · exact ⟨d, e, h2⟩
    · exact ⟨d2, e', h2⟩
  have lo : ∀ b, Owned (G.set i (some (true, d'))) σ b → Owned G σ b := fun b ⟨j, h⟩ => ⟨j, oat j b h⟩
  have lz : ∀ b, Zof B (G.set i (some (true, d'))) σ b → Zof B G σ b := fun b h => h.imp id (lo b)
  have oa : Owned G σ a := ⟨i, d, e, hs⟩
  obtain ⟨a', ha', oa'⟩ := Su.own i d e
  have ea : a' = a := by rw [hs] at ha'; injection ha' with ha'; injection ha' with ha'; injection ha' with ha'; exact ha'.symm
  rw [ea] at oa'
  obtain ⟨u, hu1, hu2⟩ := oa'.some
  have ex : Ext (Zof B G σ) H H' := Ext.wr hu1 hu2 (.inr oa) hx
  refine ⟨⟨by rw [List.length_set, Su.len], fun b hb => ?_, ex.tab Su.tab, fun b h => Su.apart b (lo b h), fun j k b h1 h2 => Su.uniq j k b (oat j b h1) (oat k b h2), fun j d2 e' => ?_, fun j d2 e' => ?_⟩, lo⟩
  · have ne : b ≠ a := fun z => Su.apart a oa (z ▸ hb)
    rw [hx b ne (Su.tr b hb)]; exact Su.tr b hb
  · rcases get_set e' with ⟨rfl, e', hl⟩ | ⟨ne, e'⟩
    · cases e'
    · obtain ⟨w, h1, h2⟩ := Su.val j d2 e'
      exact ⟨w, h1, (h2.mono ex).less lz⟩
  · rcases get_set e' with ⟨rfl, e', hl⟩ | ⟨ne, e'⟩
    · cases e'
      exact ⟨a, hs, o.grow fun b z => .inl (lz b z)⟩
    · obtain ⟨w, h1, h2⟩ := Su.own j d2 e'
      have nw : w ≠ a := fun z => ne (Su.uniq j i a ⟨d2, e', z ▸ h1⟩ ⟨d, e, hs⟩)
      exact ⟨w, h1, (h2.mono ex (hx w nw h2.there)).grow fun b z => .inl (lz b z)⟩
end
/-! ### targets -/
def gAll : List Nat → TGs
  | [] => gNil
  | i :: is => gCons (gName i) (gAll is)
def gTg (K : PySem.W.Frag) : Tg → TG
  | .one i => gName i
  | .tup is => gTup K is.length (gAll is)
section
variable {S : Stat} {X : Cx} {O : OpT} {sc : Scope}
theorem assignEach_names {sl : Str → Bool} : ∀ {is : List Nat} {es : List Expr}, okTs S sl is es = true → ∀ env, (assignEach es env).length = is.length ∧ (assignEach es env).findIdx? (·.1) = none ∧ ∀ e r, es = e :: r → (assignEach es env).map (·.2) = assign e env :: (assignEach r env).map (·.2)
  | [], [], _, env => ⟨rfl, rfl, fun e r z => by cases z⟩
  | [], _ :: _, h, _ => by simp [okTs] at h
  | _ :: _, [], h, _ => by simp [okTs] at h
  | i :: is, e :: es, h, env => by
    cases e <;> simp only [okTs, Bool.false_eq_true] at h
    rename_i x p
    simp only [Bool.and_eq_true, decide_eq_true_eq] at h
    obtain ⟨h1, h2, _⟩ := assignEach_names h.2 env
    have e1 : assignEach (.Name x p :: es) env = (false, assign (.Name x p) env) :: assignEach es env := rfl
    refine ⟨by rw [e1, List.length_cons, List.length_cons, h1], ?_, fun e r z => by cases z; rfl⟩
    rw [e1, List.findIdx?_cons]
    simp only [Bool.false_eq_true, if_false, h2]
    rfl
theorem pgs_all {sl : Str → Bool} (hN : X.N = S.N) (hnd : X.N.Nodup) (hsc : ∀ x, sl x = true → Loc X.env.scope x ∧ (X.fn x = true ∨ X.env.scope.names.lookup x = some .local)) : ∀ {is : List Nat} {es : List Expr}, okTs S sl is es = true → PGs X es (gAll is)
  | [], [], _ => pgs_nil
  | [], _ :: _, h => by simp [okTs] at h
  | _ :: _, [], h => by simp [okTs] at h
  | i :: is, e :: es, h => by
    have ha := (assignEach_names h X.env).2.2 e es rfl
    cases e <;> simp only [okTs, Bool.false_eq_true] at h
    rename_i x p
    simp only [Bool.and_eq_true, decide_eq_true_eq] at h
    refine pgs_cons (pg_name hnd (by rw [hN]; exact h.1.1) (hsc _ h.1.2).1 (hsc _ h.1.2).2) (pgs_all hN hnd hsc h.2) ha
theorem pg_tg {sl : Str → Bool} (hN : X.N = S.N) (hnd : X.N.Nodup) (hsc : ∀ x, sl x = true → Loc X.env.scope x ∧ (X.fn x = true ∨ X.env.scope.names.lookup x = some .local)) (hc : X.calm = true) {tg : Tg} {e : Expr} (h : okT S sl tg e = true) : PG X e (gTg X.K tg) := by
  cases tg with
  | one i =>
    cases e <;> simp only [okT, Bool.false_eq_true] at h
    simp only [Bool.and_eq_true, decide_eq_true_eq] at h
    exact pg_name hnd (by rw [hN]; exact h.1) (hsc _ h.2).1 (hsc _ h.2).2
  | tup is =>
    cases e <;> simp only [okT, Bool.false_eq_true] at h
    simp only [Bool.and_eq_true, decide_eq_true_eq] at h
    obtain ⟨h1, h2, _⟩ := assignEach_names h.1 X.env
    exact pg_tup hc (pgs_all hN hnd hsc h.1) h1 h2
end
/-- the slots of the targets -/
def tgAt : Tg → L2.St → L2.St → Prop := fun tg σ σ' => σ'.length = σ.length ∧ ∀ j, j ∉ tgSlots tg → σ'[j]? = σ[j]?
section
variable {c : Cfg} {B : Addr → Prop} {H : Hp}
theorem gAll_ok : ∀ {is : List Nat} {ds : List D} {vs : List V} {G : Ev} {σ : L2.St} {Q : L2.St → Hp → Prop}, is.length = ds.length → Reps c (Zof B G σ) H ds vs → StOk c B G σ H →
    (∀ σ', StOk c B (setAll is ds G) σ' H → (∀ b, Owned (setAll is ds G) σ' b → Owned G σ b) → tgAt (.tup is) σ σ' → Q σ' H) → gAll is vs σ H Q
  | [], [], _, G, σ, Q, _, .nil, Su, q => ⟨rfl, q σ Su (fun _ h => h) ⟨rfl, fun _ _ => rfl⟩⟩
  | i :: is, d :: ds, v :: vs, G, σ, Q, hl, .cons r t, Su, q => by
    refine ⟨v, vs, rfl, gAll_ok (is := is) (ds := ds) (G := G.set i (some (false, d))) (by simpa using hl) ?_ (Su.set r) fun σ' Su' lo at' => q σ' Su' (fun b h => own_set (lo b h)) ⟨by rw [at'.1, List.length_set], fun j hj => ?_⟩⟩
    · exact t.less fun b h => h.imp id own_set
    · have hj' : j ≠ i ∧ j ∉ is := by simpa [tgSlots] using hj
      rw [at'.2 j hj'.2, List.getElem?_set_ne (fun z => hj'.1 z.symm)]
  | [], _ :: _, _, _, _, _, hl, _, _, _ => by cases hl
  | _ :: _, [], _, _, _, _, hl, _, _, _ => by cases hl
theorem gTg_ok {tg : Tg} {d : D} {v : V} {G G' : Ev} {σ : L2.St} {Q : L2.St → Hp → Prop} (hb : bindT tg d G = some G') (r : Rep c (Zof B G σ) H d v) (Su : StOk c B G σ H)
    (q : ∀ σ', StOk c B G' σ' H → (∀ b, Owned G' σ' b → Owned G σ b) → tgAt tg σ σ' → Q σ' H) : gTg c.K tg v σ H Q := by
  cases tg with
  | one i =>
    cases hb
    exact q _ (Su.set r) (fun b h => own_set h) ⟨List.length_set, fun j hj => List.getElem?_set_ne (fun z => hj (by simp [tgSlots, z]))⟩
  | tup is =>
    cases d <;> simp only [bindT] at hb <;> first | (cases hb; done) | skip
    rename_i ds
    split at hb
    · rename_i hl
      cases hb
      cases r with
      | tup t r => exact ⟨_, _, rfl, t.sq, by rw [← r.length]; exact hl.symm, gAll_ok hl r Su q⟩
    · cases hb
end
/-! ### what is walked -/
def Zw (Z : Addr → Prop) (H : Hp) (a : Addr) : Prop := Z a ∨ H a = none
def WalkD (c : Cfg) (Z : Addr → Prop) (H1 : Hp) (J : It) (ds : List D) : Prop :=
  ∃ Y, Walk J ds.length (fun H => Ext (Zw Z H1) H1 H) Y ∧ ∀ i H x H' (Z2 : Addr → Prop), i < ds.length → Ext (Zw Z H1) H1 H → Y i H x H' → (∀ b, Z2 b → Zw Z H1 b) → (∀ b, Z2 b → H b ≠ none) → Same H H' ∧ ∃ d, ds[i]? = some d ∧ Rep c Z2 H' d x
section
variable {c : Cfg} {Z Z2 : Addr → Prop} {H1 H : Hp} {d : D} {v : V}
theorem Rep.late (h : Rep c Z H1 d v) (e : Ext (Zw Z H1) H1 H) (hz : ∀ b, Z2 b → Zw Z H1 b) : Rep c Z2 H d v := ((h.grow (B' := Zw Z H1) fun b z => z).mono e).less hz
theorem LstAt.late {a : Addr} {vs : List V} (h : LstAt c.K Z H1 a vs) (e : Ext (Zw Z H1) H1 H) : SqL c.K H a vs := ((h.grow (B' := Zw Z H1) fun b z => z).mono e).sq
theorem TupAt.late {a : Addr} {vs : List V} (h : TupAt c.K Z H1 a vs) (e : Ext (Zw Z H1) H1 H) : SqT c.K H a vs := ((h.grow (B' := Zw Z H1) fun b z => z).mono e).sq
theorem walkD_list {a : Addr} {vs : List V} {ds : List D} (h : LstAt c.K Z H1 a vs) (r : Reps c Z H1 ds vs) : WalkD c Z H1 (Itl c.K a) ds := by
  refine ⟨YAt vs, by rw [r.length]; exact walk_list.mono (fun H e => h.late e) fun _ _ _ _ _ _ y => y, fun i H x H' Z2 hi e y hz ht => ?_⟩
  obtain ⟨rfl, y⟩ := y
  obtain ⟨d, h1, h2⟩ := r.getV y
  exact ⟨Same.refl _, d, h1, h2.late e hz⟩
theorem walkD_tup {a : Addr} {vs : List V} {ds : List D} (h : TupAt c.K Z H1 a vs) (r : Reps c Z H1 ds vs) : WalkD c Z H1 (Itt c.K a) ds := by
  refine ⟨YAt vs, by rw [r.length]; exact walk_tup.mono (fun H e => h.late e) fun _ _ _ _ _ _ y => y, fun i H x H' Z2 hi e y hz ht => ?_⟩
  obtain ⟨rfl, y⟩ := y
  obtain ⟨d, h1, h2⟩ := r.getV y
  exact ⟨Same.refl _, d, h1, h2.late e hz⟩
theorem walkD_str {s : List Nat} : WalkD c Z H1 (Its ⟨⟨s⟩⟩) (s.map fun ch => .str [ch]) := by
  refine ⟨_, by rw [List.length_map]; exact (walk_str (z := ⟨⟨s⟩⟩)).mono (fun H e => trivial) fun _ _ _ _ _ _ y => y, fun i H x H' Z2 hi e y hz ht => ?_⟩
  obtain ⟨rfl, ch, y, rfl⟩ := y
  have y' : s[i]? = some ch := by simpa using y
  exact ⟨Same.refl _, .str [ch], by rw [List.getElem?_map, y']; rfl, .str [ch]⟩
theorem walkD_range {lo hi : Int} : WalkD c Z H1 (Itr lo (hi - lo).toNat) (rangeD lo hi) := by
  have hl : (rangeD lo hi).length = (hi - lo).toNat := by unfold rangeD; rw [List.length_map, List.length_range]
  refine ⟨_, by rw [hl]; exact (walk_range (lo := lo) (n := (hi - lo).toNat)).mono (fun H e => trivial) fun _ _ _ _ _ _ y => y, fun i H x H' Z2 hi' e y hz ht => ?_⟩
  obtain ⟨rfl, rfl⟩ := y
  rw [hl] at hi'
  refine ⟨Same.refl _, .int (lo + i), ?_, .int _⟩
  unfold rangeD
  rw [List.getElem?_map, List.getElem?_range hi']; rfl
theorem walkD_rev {a : Addr} {vs : List V} {ds : List D} (h : LstAt c.K Z H1 a vs) (r : Reps c Z H1 ds vs) : WalkD c Z H1 (Itv c.K a vs.length) ds.reverse := by
  refine ⟨_, by rw [List.length_reverse, r.length]; exact (walk_rev (xs := vs)).mono (fun H e => h.late e) fun _ _ _ _ _ _ y => y, fun i H x H' Z2 hi e y hz ht => ?_⟩
  obtain ⟨rfl, y⟩ := y
  obtain ⟨d, h1, h2⟩ := r.getV y
  rw [List.length_reverse] at hi
  refine ⟨Same.refl _, d, ?_, h2.late e hz⟩
  rw [List.getElem?_reverse hi, r.length]
  exact h1
theorem zipD_len : ∀ ds es : List D, (zipD ds es).length = min ds.length es.length
  | [], _ => by simp [zipD]
  | _ :: _, [] => by simp [zipD]
  | d :: ds, e :: es => by
    show (zipD ds es).length + 1 = _
    rw [zipD_len ds es, List.length_cons, List.length_cons]; omega
theorem zipD_get : ∀ (ds es : List D) (i : Nat) (d e : D), ds[i]? = some d → es[i]? = some e → (zipD ds es)[i]? = some (.tup [d, e])
  | [], _, _, _, _, h, _ => by simp at h
  | _ :: _, [], _, _, _, _, h => by simp at h
  | d :: ds, e :: es, 0, _, _, h, h2 => by
    have e1 : d = _ := Option.some.inj h
    have e2 : e = _ := Option.some.inj h2
    rw [e1, e2]; rfl
  | d :: ds, e :: es, i + 1, d', e', h, h2 => zipD_get ds es i d' e' (by simpa using h) (by simpa using h2)
theorem pair_ok {i : Nat} {x : V} {H' : Hp} {vs ws : List V} {ds es : List D} (e : Ext (Zw Z H1) H1 H) (y : YPair (fun i => vs[i]?) (fun i => ws[i]?) i H x H') (hz : ∀ b, Z2 b → Zw Z H1 b) (ht : ∀ b, Z2 b → H b ≠ none)
    (r : Reps c Z H1 ds vs) (r2 : Reps c Z H1 es ws) : Same H H' ∧ ∃ d, (zipD ds es)[i]? = some d ∧ Rep c Z2 H' d x := by
  obtain ⟨T, p, q, rfl, nT, rfl, hp, hq⟩ := y
  obtain ⟨d1, g1, k1⟩ := r.getV hp
  obtain ⟨d2, g2, k2⟩ := r2.getV hq
  have sm := Same.new (o := .tup [p, q]) nT
  exact ⟨sm, _, zipD_get _ _ _ _ _ g1 g2, .tup (.of upd_same fun z => ht T z nT) (.cons ((k1.late e hz).same sm) (.cons ((k2.late e hz).same sm) .nil))⟩
/-- a source's data -/
def SrcD (c : Cfg) (Z : Addr → Prop) (H1 : Hp) (r : Src) (ds : List D) : Prop := ∃ vs, Reps c Z H1 ds vs ∧ ∀ H, Ext (Zw Z H1) H1 H → SrcAt c.K H r vs
theorem reps_str : ∀ s : List Nat, Reps c Z H1 (s.map fun ch => .str [ch]) (s.map fun c => V.str ⟨#[c]⟩)
  | [] => .nil
  | x :: s => .cons (.str [x]) (reps_str s)
theorem srcD_of {H0 : Hp} {f : Fl} {d : D} {ds : List D} {v : V} (h : RepF c Z H0 H1 (f, d) v) (hf : f ≠ .tmp) (ht : ∀ a, Z a → H0 a ≠ none) (hi : itemsD d = some ds) : ∃ r, v = r.v ∧ SrcD c Z H1 r ds := by
  have k := h.keep hf ht
  cases d <;> simp only [itemsD, reduceCtorEq] at hi
  · have e := Option.some.inj hi
    rename_i s
    have k' : v = .str ⟨⟨s⟩⟩ := by cases k; rfl
    subst e k'
    refine ⟨.txt ⟨⟨s⟩⟩, rfl, s.map fun c => V.str ⟨#[c]⟩, ?_, fun H _ => rfl⟩
    exact reps_str s
  · have e := Option.some.inj hi
    subst e
    cases k with
    | tup t r => exact ⟨.tup _, rfl, _, r, fun H e => t.late e⟩
  · have e := Option.some.inj hi
    subst e
    cases k with
    | lst t r => exact ⟨.lst _, rfl, _, r, fun H e => t.late e⟩
theorem walkD_zipS {r1 r2 : Src} {ds es : List D} (h : SrcD c Z H1 r1 ds) (h2 : SrcD c Z H1 r2 es) : WalkD c Z H1 (ItzS c.K r1 r2) (zipD ds es) := by
  obtain ⟨vs, r, q⟩ := h
  obtain ⟨ws, r2', q2⟩ := h2
  refine ⟨YPair (fun i => vs[i]?) (fun i => ws[i]?), ⟨fun i H hi e => ?_, fun H e => ?_, fun i H x H' hi e y => ?_⟩, fun i H x H' Z2 hi e y hz ht => pair_ok e y hz ht r r2'⟩
  · rw [zipD_len, r.length, r2'.length] at hi
    exact ⟨vs, ws, q H e, q2 H e, by omega, by omega⟩
  · rw [zipD_len, r.length, r2'.length]
    exact ⟨vs, ws, q H e, q2 H e, by omega, by omega, by omega⟩
  · obtain ⟨T, p, w, h3, h4, h5, h6, h7⟩ := y
    exact ⟨T, p, w, h3, h4, h5, h6 vs (q H e), h7 ws (q2 H e)⟩
end
end RA
/-! RA10: what is walked, comprehensions. -/
namespace RA
open PySem PySem.Spec PyProof.Rows L2
variable [Tabs]
def ResI (c : Cfg) (Z : Addr → Prop) (W : WX) (σ : L2.St) (H : Hp) (r : Rs (List D)) (R : It → Hp → Prop) : Prop := match r with
  | .no => False
  | .ok ds => ∀ J H1, Same H H1 → WalkD c Z H1 J ds → R J H1
  | .ex x fs => ∀ cls dd H', Same H H' → ExcAt c Z H' x fs cls dd → W cls dd σ H'
def tI (c : Cfg) (B : Addr → Prop) (W : WX) (G : Ev) (r : Rs (List D)) : TI := fun σ H R => StOk c B G σ H ∧ ResI c (Zof B G σ) W σ H r R
theorem _root_.L2.PI.weak {X : Cx} {tg e : Expr} {t t' : TI} (h : PI X tg e t) (k : ∀ σ H Q, t' σ H Q → t σ H Q) : PI X tg e t' := ⟨fun pins s σ H Q I q => h.run pins s σ H Q I (k σ H Q q)⟩
theorem _root_.L2.PI.never {X : Cx} {tg e : Expr} {t : TI} (k : ∀ σ H Q, ¬ t σ H Q) : PI X tg e t := ⟨fun pins s σ H Q I q => (k σ H Q q).elim⟩
section
variable {S : Stat} {X : Cx} {O : OpT} {W : WX} {sc : Scope} {B : Addr → Prop} {G : Ev}
/-- a list that may be kept -/
theorem RepF.lstK {c : Cfg} {Z : Addr → Prop} {H H' : Hp} {f : Fl} {ds : List D} {v : V} (h : RepF c Z H H' (f, .lst ds) v) (hf : f ≠ .tmp) (ht : ∀ a, Z a → H a ≠ none) : ∃ a vs, v = .ref a ∧ LstAt c.K Z H' a vs ∧ Reps c Z H' ds vs := by
  have k := h.keep hf ht
  cases k with
  | lst l r => exact ⟨_, _, rfl, l, r⟩
theorem oki_ex {x : IE} {tg e : Expr} (hx : PE X e (tE (cfg X O) B W G (ev S.F x G))) : PI X tg e (tI (cfg X O) B W G (evI S.F (.ex x) G)) := by
  cases ea : ev S.F x G with
  | no => exact PI.never fun σ H Q ⟨Su, R⟩ => by simp only [evI, ea, Rs.bind_no] at R; exact R
  | ex n fs =>
    refine (pi_list hx).weak fun σ H Q ⟨Su, R⟩ => ?_
    simp only [evI, ea, Rs.bind_ex] at R
    show tE _ _ _ _ _ σ H _
    rw [ea]
    exact ⟨Su, R⟩
  | ok a =>
    obtain ⟨f, d⟩ := a
    cases d with
    | lst ds =>
      refine (pi_list hx).weak fun σ H Q ⟨Su, R⟩ => ?_
      simp only [evI, ea, Rs.bind_ok, itemsD] at R
      split at R
      · exact False.elim R
      · rename_i hf
        show tE _ _ _ _ _ σ H _
        rw [ea]
        refine ⟨Su, fun v H1 s1 rv => ?_⟩
        obtain ⟨a, vs, rfl, h1, h2⟩ := rv.lstK hf Su.ztr
        exact ⟨a, rfl, ⟨vs, h1.sq⟩, R _ _ s1 (walkD_list h1 h2)⟩
    | tup ds =>
      refine (pi_tup hx).weak fun σ H Q ⟨Su, R⟩ => ?_
      simp only [evI, ea, Rs.bind_ok, itemsD] at R
      split at R
      · exact False.elim R
      · rename_i hf
        show tE _ _ _ _ _ σ H _
        rw [ea]
        refine ⟨Su, fun v H1 s1 rv => ?_⟩
        obtain ⟨a, vs, rfl, h1, h2⟩ := rv.tup
        exact ⟨a, rfl, ⟨vs, h1.sq⟩, R _ _ s1 (walkD_tup h1 h2)⟩
    | str t =>
      refine (pi_str hx).weak fun σ H Q ⟨Su, R⟩ => ?_
      simp only [evI, ea, Rs.bind_ok, itemsD] at R
      split at R
      · exact False.elim R
      · show tE _ _ _ _ _ σ H _
        rw [ea]
        exact ⟨Su, fun v H1 s1 rv => ⟨_, rv.str, R _ _ s1 walkD_str⟩⟩
    | _ => exact PI.never fun σ H Q ⟨Su, R⟩ => by
             simp only [evI, ea, Rs.bind_ok, itemsD] at R
             split at R <;> exact R
theorem oki_rng1 (C : CtxB S X O W sc) {x : IE} {tg a : Expr} {y : Str} {p pos : Pos} (hb : okB S sc "range" y = true) (hp : Plain1 a) (hx : PE X a (tE (cfg X O) B W G (ev S.F x G))) : PI X tg (.Call (.Name y p) [a] [] pos) (tI (cfg X O) B W G (evI S.F (.rng1 x) G)) := by
  obtain ⟨rfl, hg, hm, hn, hd⟩ := okB_of C hb
  refine (pi_range1 hg hm (pa_cons hx pa_nil (star_cons hp)) (star_cons hp)).weak fun σ H Q ⟨Su, R⟩ => ?_
  simp only [evI] at R
  show tE _ _ _ _ _ σ H _
  cases ea : ev S.F x G with
  | no => rw [ea] at R; exact False.elim R
  | ex n fs => rw [ea] at R; exact ⟨Su, R⟩
  | ok a =>
    rw [ea, Rs.bind_ok] at R
    refine ⟨Su, fun v H1 s1 rv => ?_⟩
    obtain ⟨f, d⟩ := a
    cases d with
    | int j =>
      have R' : ResI (cfg X O) (Zof B G σ) W σ H (if smallI j = true then .ok (rangeD 0 j) else .no) Q := R
      split at R'
      · rename_i hs
        have hs' := of_decide_eq_true hs
        refine ⟨j, by rw [rv.int], hs'.1, hs'.2, ?_⟩
        have w := walkD_range (c := cfg X O) (Z := Zof B G σ) (H1 := H1) (lo := 0) (hi := j)
        rw [Int.sub_zero] at w
        exact R' _ _ s1 w
      · exact False.elim R'
    | _ => exact False.elim R
theorem oki_rng2 (C : CtxB S X O W sc) {x z : IE} {tg a b : Expr} {y : Str} {p pos : Pos} (hb : okB S sc "range" y = true) (hp : Plain1 a) (hp2 : Plain1 b) (hx : PE X a (tE (cfg X O) B W G (ev S.F x G))) (hz : PE X b (tE (cfg X O) B W G (ev S.F z G))) :
    PI X tg (.Call (.Name y p) [a, b] [] pos) (tI (cfg X O) B W G (evI S.F (.rng2 x z) G)) := by
  obtain ⟨rfl, hg, hm, hn, hd⟩ := okB_of C hb
  have e2 : starEach [b] X.env = [(false, eval b X.env)] := star_cons hp2
  refine (pi_range2 hg hm (pa_cons hx (pa_cons hz pa_nil (star_cons hp2)) (star_cons hp)) (by rw [star_cons hp, e2]) e2).weak fun σ H Q ⟨Su, R⟩ => ?_
  simp only [evI] at R
  show tE _ _ _ _ _ σ H fun v H1 => tE _ _ _ _ _ σ H1 _
  cases ea : ev S.F x G with
  | no => rw [ea] at R; exact False.elim R
  | ex n fs => rw [ea] at R; exact ⟨Su, R⟩
  | ok a =>
    rw [ea, Rs.bind_ok] at R
    refine ⟨Su, fun v H1 s1 rv => ⟨Su.same s1, ?_⟩⟩
    cases eb : ev S.F z G with
    | no => rw [eb] at R; exact False.elim R
    | ex n fs => rw [eb] at R; exact fun cls dd H' s' e' => R cls dd H' (s1.trans s') e'
    | ok b =>
      rw [eb, Rs.bind_ok] at R
      refine fun w H2 s2 rw' => ?_
      obtain ⟨f, d⟩ := a
      obtain ⟨g, e⟩ := b
      cases d with
      | int i =>
        cases e with
        | int j =>
          have R' : ResI (cfg X O) (Zof B G σ) W σ H (if (smallI i && smallI j) = true then .ok (rangeD i j) else .no) Q := R
          split at R'
          · rename_i hs
            rw [Bool.and_eq_true] at hs
            have h1 := of_decide_eq_true hs.1
            have h2 := of_decide_eq_true hs.2
            exact ⟨i, j, by rw [rv.int, rw'.int], ⟨h1.1, h1.2, h2.1, h2.2⟩, R' _ _ (s1.trans s2) walkD_range⟩
          · exact False.elim R'
        | _ => exact False.elim R
      | _ => exact False.elim R
theorem oki_rev (C : CtxB S X O W sc) {x : IE} {tg a : Expr} {y : Str} {p pos : Pos} (hb : okB S sc "reversed" y = true) (hp : Plain1 a) (hx : PE X a (tE (cfg X O) B W G (ev S.F x G))) : PI X tg (.Call (.Name y p) [a] [] pos) (tI (cfg X O) B W G (evI S.F (.rev x) G)) := by
  obtain ⟨rfl, hg, hm, hn, hd⟩ := okB_of C hb
  refine (pi_reversed hg hm (pa_cons hx pa_nil (star_cons hp)) (star_cons hp)).weak fun σ H Q ⟨Su, R⟩ => ?_
  simp only [evI] at R
  show tE _ _ _ _ _ σ H _
  cases ea : ev S.F x G with
  | no => rw [ea] at R; exact False.elim R
  | ex n fs => rw [ea] at R; exact ⟨Su, R⟩
  | ok a =>
    rw [ea, Rs.bind_ok] at R
    split at R
    · exact False.elim R
    · rename_i hf
      refine ⟨Su, fun v H1 s1 rv => ?_⟩
      obtain ⟨f, d⟩ := a
      cases d with
      | lst ds =>
        obtain ⟨a, vs, rfl, h1, h2⟩ := rv.lstK hf Su.ztr
        exact ⟨a, vs, rfl, h1.sq, R _ _ s1 (walkD_rev h1 h2)⟩
      | _ => exact False.elim R
theorem oki_zip (C : CtxB S X O W sc) {x z : IE} {a b : Expr} {elts : List Expr} {kk : Nat} {y : Str} {p pos tpos : Pos} (hb : okB S sc "zip" y = true) (hp : Plain1 a) (hp2 : Plain1 b) (hx : PE X a (tE (cfg X O) B W G (ev S.F x G))) (hz : PE X b (tE (cfg X O) B W G (ev S.F z G))) :
    PI X (.Tuple elts kk tpos) (.Call (.Name y p) [a, b] [] pos) (tI (cfg X O) B W G (evI S.F (.zip2 x z) G)) := by
  obtain ⟨rfl, hg, hm, hn, hd⟩ := okB_of C hb
  have e2 : starEach [b] X.env = [(false, eval b X.env)] := star_cons hp2
  refine (pi_zipS hg hm (pa_cons hx (pa_cons hz pa_nil (star_cons hp2)) (star_cons hp)) (star_cons hp) (by rw [e2]; rfl)).weak fun σ H Q ⟨Su, R⟩ => ?_
  simp only [evI] at R
  show tE _ _ _ _ _ σ H fun v H1 => tE _ _ _ _ _ σ H1 _
  cases ea : ev S.F x G with
  | no => rw [ea] at R; exact False.elim R
  | ex n fs => rw [ea] at R; exact ⟨Su, R⟩
  | ok a =>
    rw [ea, Rs.bind_ok] at R
    refine ⟨Su, fun v H1 s1 rv => ⟨Su.same s1, ?_⟩⟩
    cases eb : ev S.F z G with
    | no => rw [eb] at R; exact False.elim R
    | ex n fs => rw [eb] at R; exact fun cls dd H' s' e' => R cls dd H' (s1.trans s') e'
    | ok b =>
      rw [eb, Rs.bind_ok] at R
      split at R
      · exact False.elim R
      · rename_i hf
        simp only [not_or] at hf
        refine fun w H2 s2 rw' => ?_
        obtain ⟨f, d⟩ := a
        obtain ⟨g, e⟩ := b
        cases ed : itemsD d with
        | none => rw [ed] at R; exact False.elim R
        | some ds =>
          cases ee : itemsD e with
          | none => rw [ed, ee] at R; exact False.elim R
          | some es =>
            rw [ed, ee] at R
            obtain ⟨r1, rfl, q1⟩ := srcD_of (rv.mono s2) hf.1 Su.ztr ed
            obtain ⟨r2, rfl, q2⟩ := srcD_of (rw'.back s1) hf.2 Su.ztr ee
            obtain ⟨vs, _, g1⟩ := id q1
            obtain ⟨ws, _, g2⟩ := id q2
            exact ⟨r1, r2, vs, ws, rfl, g1 H2 (Ext.refl _ _), g2 H2 (Ext.refl _ _), R _ _ (s1.trans s2) (walkD_zipS q1 q2)⟩
end
/-! ### comprehensions -/
theorem wipe_get {σ : L2.St} {j : Nat} : ∀ {vs : List Nat}, (wipe σ vs)[j]? = if j ∈ vs then (if j < σ.length then some none else none) else σ[j]?
  | [] => by simp [wipe]
  | v :: vs => by
    unfold wipe
    by_cases e : j = v
    · subst e
      rw [if_pos List.mem_cons_self]
      by_cases hl : j < σ.length
      · rw [if_pos hl, List.getElem?_set_self (by rw [wipe_length]; exact hl)]
      · rw [if_neg hl, List.getElem?_eq_none (by rw [List.length_set, wipe_length]; omega)]
    · rw [List.getElem?_set_ne (fun z => e z.symm), wipe_get (vs := vs)]
      simp [e]
theorem wipe_eq {σ σ2 : L2.St} {vs : List Nat} (hl : σ2.length = (wipe σ vs).length) (h : ∀ j, j ∉ vs → σ2[j]? = (wipe σ vs)[j]?) : wipe σ2 vs = wipe σ vs := by
  refine List.ext_getElem? fun j => ?_
  rw [wipe_length] at hl
  by_cases e : j ∈ vs
  · rw [wipe_get, wipe_get, if_pos e, if_pos e, hl]
  · rw [wipe_get, if_neg e, h j e]
theorem forget_get {G : Ev} {j : Nat} : ∀ {vs : List Nat}, j ∉ vs → (forget vs G)[j]? = G[j]?
  | [], _ => rfl
  | v :: vs, h => by
    have h' : j ≠ v ∧ j ∉ vs := by simpa using h
    unfold forget
    rw [List.getElem?_set_ne (fun z => h'.1 z.symm), forget_get h'.2]
theorem setAll_get {j : Nat} : ∀ {is : List Nat} {ds : List D} {G : Ev}, j ∉ is → (setAll is ds G)[j]? = G[j]?
  | [], _, _, _ => by simp [setAll]
  | _ :: _, [], _, _ => by simp [setAll]
  | i :: is, d :: ds, G, h => by
    have h' : j ≠ i ∧ j ∉ is := by simpa using h
    unfold setAll
    rw [setAll_get h'.2, List.getElem?_set_ne (fun z => h'.1 z.symm)]
theorem bindT_get {tg : Tg} {d : D} {G G' : Ev} {j : Nat} (h : bindT tg d G = some G') (hj : j ∉ tgSlots tg) : G'[j]? = G[j]? := by
  cases tg with
  | one i =>
    cases h
    exact List.getElem?_set_ne fun z => hj (by simp [tgSlots, z])
  | tup is =>
    cases d <;> simp only [bindT] at h <;> first | (cases h; done) | skip
    split at h
    · cases h; exact setAll_get hj
    · cases h
section
variable {c : Cfg} {B : Addr → Prop} {G : Ev} {σ : L2.St} {H : Hp}
theorem StOk.wiped (Su : StOk c B G σ H) : ∀ vs : List Nat, StOk c B (forget vs G) (wipe σ vs) H
  | [] => Su
  | v :: vs => (Su.wiped vs).clr List.length_set fun j hj => List.getElem?_set_ne fun z => hj z.symm
theorem own_wiped {vs : List Nat} {a : Addr} (h : Owned (forget vs G) (wipe σ vs) a) : Owned G σ a := by
  obtain ⟨j, d, h1, h2⟩ := h
  by_cases e : j ∈ vs
  · rw [wipe_get, if_pos e] at h2
    split at h2 <;> cases h2
  · rw [forget_get e] at h1
    rw [wipe_get, if_neg e] at h2
    exact ⟨j, d, h1, h2⟩
/-- one more address to keep off -/
theorem StOk.more (Su : StOk c B G σ H) {D : Addr} {H' : Hp} (s : Same H H') (n : H D = none) (t : H' D ≠ none) : StOk c (fun b => B b ∨ b = D) G σ H' := by
  have gz : ∀ b, Zof (fun b => B b ∨ b = D) G σ b → Zof B G σ b ∨ H b = none := fun b h => by
    rcases h with (h | h) | h
    · exact .inl (.inl h)
    · exact .inr (by rw [h]; exact n)
    · exact .inl (.inr h)
  refine ⟨Su.len, fun b h => ?_, s.tab Su.tab, fun b h hb => ?_, Su.uniq, fun j d e => ?_, fun j d e => ?_⟩
  · rcases h with h | h
    · exact (Su.same s).tr b h
    · rw [h]; exact t
  · rcases hb with hb | hb
    · exact Su.apart b h hb
    · exact Su.ztr b (.inr h) (by rw [hb]; exact n)
  · obtain ⟨w, h1, h2⟩ := Su.val j d e
    exact ⟨w, h1, (h2.grow gz).same s⟩
  · obtain ⟨w, h1, h2⟩ := Su.own j d e
    exact ⟨w, h1, (h2.grow gz).same s⟩
end
abbrev W0 : WX := fun _ _ _ _ => False
theorem _root_.L2.PE.any {X : Cx} {e : Expr} {α : Type} {t : α → TE} (h : ∀ g, PE X e (t g)) : PE X e (fun σ H Q => ∃ g, t g σ H Q) := ⟨fun pins s σ H Q I ⟨g, q⟩ => (h g).run pins s σ H Q I q⟩
theorem _root_.L2.PT.any {X : Cx} {e : Expr} {α : Type} {t : α → TT} (h : ∀ g, PT X e (t g)) : PT X e (fun σ H Q => ∃ g, t g σ H Q) := ⟨fun pins s σ H Q I ⟨g, q⟩ => (h g).run pins s σ H Q I q⟩
section
variable {S : Stat} {X : Cx} {O : OpT} {W : WX} {sc : Scope} {B : Addr → Prop} {G : Ev}
theorem blk_ok (C : CtxB S X O W sc) (scope : Scope) (hk : scope.kind = .function) (s : Shared) (H : Hp) (Cn : Addr) (cl : List (Str × Addr)) (fp : List Addr) : CtxB S (X.blk s H scope (compEnvC scope cl Cn X.env) fp) O W0 (relS scope sc) :=
  ⟨C.N, C.nd, hk, by rw [← C.sc]; rfl, C.calm, C.room, fun _ _ x => by
    obtain ⟨_, _, _, _, _, _, _, _, _, _, _, _, _, _, _, _, z⟩ := x
    exact z.elim, C.bs, C.fs, C.gs⟩
/-- parts and what they come to -/
inductive Parts (S : Stat) (X : Cx) (O : OpT) (W : WX) (sc : Scope) (B : Addr → Prop) (G : Ev) : List Expr → IEs → Prop
  | nil : Parts S X O W sc B G [] .nil
  | cons {e : Expr} {x : IE} {es : List Expr} {as : IEs} : okE S x sc e = true → PE X e (tE (cfg X O) B W G (ev S.F x G)) → Parts S X O W sc B G es as → Parts S X O W sc B G (e :: es) (.cons x as)
theorem Parts.pa {es : List Expr} {as : IEs} (h : Parts S X O W sc B G es as) : PA X es (tA (cfg X O) B W G (evs S.F as G)) := by
  induction h with
  | nil => exact okA_nil
  | cons k p _ ih => exact okA_cons (okE_plain k) p ih
/-- a further expression comes to what the small language says -/
def XeOk (S : Stat) (c : Cfg) (t : XT) : Prop := ∀ (X : Cx) (O : OpT) (W : WX) (sc : Scope) (B : Addr → Prop) (G : Ev) (e : Expr) (es : List Expr) (as : IEs), cfg X O = c → CtxB S X O W sc → xtDec t S sc e = some es →
  Parts S X O W sc B G es as → PE X e (tE (cfg X O) B W G ((evs S.F as G).bind (xtD S.F t)))
/-- a further walk is told -/
def XwOk (S : Stat) (c : Cfg) (w : WK) : Prop := ∀ (X : Cx) (O : OpT) (W : WX) (sc : Scope) (B : Addr → Prop) (G : Ev) (tg e : Expr) (es : List Expr) (as : IEs), cfg X O = c → CtxB S X O W sc → wkDec w S sc tg e = some es →
  Parts S X O W sc B G es as → PI X tg e (tI (cfg X O) B W G ((evs S.F as G).bind (wkD w))) ∧ ∀ env x, foldedSetIterable e env x = pure x
def XtOk (S : Stat) (c : Cfg) : XT → Prop
  | .wk w => XwOk S c w
  | t => XeOk S c t
theorem XtOk.use {S : Stat} {c : Cfg} {t : XT} {sc : Scope} {e : Expr} {es : List Expr} (h : XtOk S c t) (d : xtDec t S sc e = some es) : XeOk S c t := by
  cases t <;> first | exact h | (exfalso; unfold xtDec at d; split at d <;> first | contradiction | (cases d; done))
structure CtxOk (S : Stat) (X : Cx) (O : OpT) (W : WX) (sc : Scope) : Prop extends CtxB S X O W sc where
  xt : ∀ t, S.xts.contains t = true → XtOk S (cfg X O) t
theorem blk_okX (C : CtxOk S X O W sc) (scope : Scope) (hk : scope.kind = .function) (s : Shared) (H : Hp) (Cn : Addr) (cl : List (Str × Addr)) (fp : List Addr) : CtxOk S (X.blk s H scope (compEnvC scope cl Cn X.env) fp) O W0 (relS scope sc) :=
  ⟨blk_ok C.toCtxB scope hk s H Cn cl fp, C.xt⟩
theorem own_slots {tg : Tg} : (ownNames S tg).map (·.2) = tgSlots tg := by
  cases tg with
  | one i => rfl
  | tup is => simp [ownNames, tgSlots, Function.comp_def]
theorem comp_read {c : Cfg} {tg : Tg} {it : II} {t e : IE} {tt : TT}
    (htt : ∀ (B' : Addr → Prop) (G' : Ev) (b : Bool) (σ : L2.St) (H : Hp) (Q : Bool → Hp → Prop), asB (ev S.F t G') = .ok b → StOk c B' G' σ H → (∀ H', Same H H' → Q b H') → tt σ H Q) {σ : L2.St} {H : Hp} {Q : VK}
    (hq : tE c B W G (ev S.F (.comp tg it t e) G) σ H Q) : tLc (tI c B W G (evI S.F it G)) (gTg c.K tg) tt (fun σ H Q => ∃ g : (Addr → Prop) × Ev, tE c g.1 W0 g.2 (ev S.F e g.2) σ H Q) (tgSlots tg) σ H Q := by
  obtain ⟨Su, R⟩ := hq
  show tI _ _ _ _ _ σ H _
  simp only [ev] at R
  cases eI : evI S.F it G with
  | no => rw [eI] at R; exact False.elim R
  | ex n fs => rw [eI] at R; exact ⟨Su, R⟩
  | ok ds =>
    rw [eI, Rs.bind_ok] at R
    split at R
    rotate_left
    · exact False.elim R
    rename_i hfr
    obtain ⟨hfr, hlen⟩ := hfr
    generalize hGw : forget (tgSlots tg) G = Gw at R
    cases eC : compGo (fun G' => asB (ev S.F t G')) (fun G' => ev S.F e G') tg Gw ds with
    | no => rw [eC] at R; exact False.elim R
    | ex n fs => rw [eC] at R; exact False.elim R
    | ok rs =>
      rw [eC] at R
      have R' : ∀ v H', Same H H' → RepF c (Zof B G σ) H H' (.own, .lst rs) v → Q v H' := R
      refine ⟨Su, fun J H1 s1 ⟨Y, w, hy⟩ => fun D nD => ?_⟩
      have nD0 : H D = none := s1.free nD
      have Sw : StOk c B Gw (wipe σ (tgSlots tg)) H1 := by rw [← hGw]; exact (Su.same s1).wiped _
      have lw : ∀ b, Zof B Gw (wipe σ (tgSlots tg)) b → Zof B G σ b := fun b h => h.imp id fun z => own_wiped (by rw [← hGw] at z; exact z)
      refine lc_it (g := gTg c.K tg) (tt := tt) (te := fun σ H Q => ∃ g : (Addr → Prop) × Ev, tE c g.1 W0 g.2 (ev S.F e g.2) σ H Q) (vs := tgSlots tg) (σ := σ) (H1 := H1) (D := D) (Qd := fun H => Q (.ref D) H) w (fun i H2 => ∃ done vs, H2 D = some (.lst vs) ∧ Reps c (fun b => Zof B G σ b ∨ b = D) H2 done vs ∧ Same H1 H2 ∧ vs.length ≤ i ∧ ∃ rest, compGo (fun G' => asB (ev S.F t G')) (fun G' => ev S.F e G') tg Gw (ds.drop i) = .ok rest ∧ done ++ rest = rs) ?_ ?_ ?_ ?_
      · exact ⟨[], [], upd_same, .nil, Same.new nD, Nat.le_refl _, rs, by rw [List.drop_zero]; exact eC, rfl⟩
      · rintro i H2 hi ⟨done, vs, h1, h2, s2, h3, _⟩
        exact Same.ext s2
      · rintro i x H2 H3 hi ⟨done, vs, hD, hr, s2, hl, rest, eR, eq⟩ hY
        have Su2 : StOk c B G σ H2 := (Su.same s1).same s2
        obtain ⟨s3, d, hd, rd⟩ := hy i H2 x H3 (Zof B G σ) hi (Same.ext s2) hY (fun b z => .inl z) Su2.ztr
        rw [List.drop_eq_getElem_cons hi] at eR
        have ed : ds[i] = d := by rw [List.getElem?_eq_getElem hi] at hd; exact Option.some.inj hd
        rw [ed] at eR
        unfold compGo at eR
        cases eB : bindT tg d Gw with
        | none => rw [eB] at eR; cases eR
        | some G' =>
          rw [eB] at eR
          dsimp only at eR
          have hD3 : H3 D = some (.lst vs) := s3.keep _ _ hD trivial
          have Sb : StOk c (fun b => B b ∨ b = D) Gw (wipe σ (tgSlots tg)) H3 := Sw.more (s2.trans s3) nD (by rw [hD3]; intro z; cases z)
          refine gTg_ok  eB (B := fun b => B b ∨ b = D) ?_ Sb fun σ2 S2 lo at2 => ⟨wipe_eq at2.1 at2.2, ?_⟩
          · have e1 : Reps c (Zof B G σ) H2 [d] [x] → True := fun _ => trivial
            have := hy i H2 x H3 (fun b => Zof B G σ b ∨ b = D) hi (Same.ext s2) hY (fun b z => z.elim .inl fun e => .inr (by rw [e]; exact nD)) (fun b z => z.elim (Su2.ztr b) fun e => by rw [e, hD]; intro z; cases z)
            obtain ⟨_, d', hd', rd'⟩ := this
            rw [hd] at hd'; cases hd'
            exact rd'.less fun b h => by
              rcases h with (h | h) | h
              · exact .inl (.inl h)
              · exact .inr h
              · exact .inl (lw b (.inr h))
          · cases eT : asB (ev S.F t G') with
            | no => rw [eT] at eR; cases eR
            | ex n fs => rw [eT] at eR; cases eR
            | ok b =>
              rw [eT, Rs.bind_ok] at eR
              refine htt _ G' b σ2 H3 _ eT S2 fun H4 s4 => ?_
              cases b with
              | false =>
                rw [if_neg Bool.false_ne_true] at eR ⊢
                exact ⟨done, vs, s4.keep _ _ hD3 trivial, (hr.same s3).same s4, (s2.trans s3).trans s4, Nat.le_succ_of_le hl, rest, eR, eq⟩
              | true =>
                rw [if_pos rfl] at eR ⊢
                refine ⟨(fun b => B b ∨ b = D, G'), S2.same s4, ?_⟩
                cases eE : ev S.F e G' with
                | no => rw [eE] at eR; cases eR
                | ex n fs => rw [eE] at eR; cases eR
                | ok r =>
                  rw [eE, Rs.bind_ok] at eR
                  split at eR
                  · cases eR
                  · rename_i hf
                    cases eN : compGo (fun G' => asB (ev S.F t G')) (fun G' => ev S.F e G') tg Gw (ds.drop (i + 1)) with
                    | no => rw [eN] at eR; cases eR
                    | ex n fs => rw [eN] at eR; cases eR
                    | ok rest' =>
                      rw [eN, Rs.bind_ok] at eR
                      cases eR
                      intro y H5 s5 ry
                      have hD4 := s4.keep _ _ hD3 trivial
                      have hD5 := s5.keep _ _ hD4 trivial
                      refine ⟨vs, hD5, by omega, done ++ [r.2], vs ++ [y], upd_same, ?_, (((s2.trans s3).trans s4).trans s5).updNew nD hD5 trivial, by rw [List.length_append]; exact Nat.succ_le_succ hl, rest', rfl, by rw [List.append_assoc]; exact eq⟩
                      · have ex : Ext (fun b => Zof B G σ b ∨ b = D) H5 (upd H5 D (.lst (vs ++ [y]))) := Ext.upd hD5 trivial (.inr rfl)
                        refine Reps.app ((((hr.same s3).same s4).same s5).mono ex) (.cons ?_ .nil)
                        have k := ry.keep hf (S2.same s4).ztr
                        refine (k.less fun b h => ?_).mono ex
                        rcases h with (h | ⟨j, d2, h1, h2⟩) | h
                        · exact .inl (.inl h)
                        · have nj : j ∉ tgSlots tg := fun z => by
                            have := List.all_eq_true.mp hfr j z
                            unfold freeAt at this
                            rw [h1] at this
                            cases this
                          refine .inr ⟨j, d2, ?_, ?_⟩
                          · rw [bindT_get eB nj, ← hGw, forget_get nj]; exact h1
                          · rw [at2.2 j nj, wipe_get, if_neg nj]; exact h2
                        · exact .inl (.inr h)
      · rintro H2 ⟨done, vs, hD, hr, s2, hl, rest, eR, eq⟩
        rw [List.drop_length] at eR
        cases eR
        rw [List.append_nil] at eq
        subst eq
        exact R' _ _ (s1.trans s2) ⟨D, rfl, nD0, .lst hD hr⟩
theorem ok_comp (C : CtxB S X O W sc) {tg : Tg} {it : II} {t e : IE} {tg' iter elt : Expr} {ifs : List Expr} {scope : Scope} {pos : Pos} {tt : TT} (hb : blkC S.N sc scope (ownNames S tg) = true) (ht : okT S (stF scope) tg tg' = true)
    (hI : PI X tg' iter (tI (cfg X O) B W G (evI S.F it G))) (hs : ∀ x, foldedSetIterable iter X.env x = pure x)
    (hT : ∀ (s : Shared) (H : Hp) (Cn : Addr) (cl : List (Str × Addr)) (fp : List Addr), PTs (X.blk s H scope (compEnvC scope cl Cn X.env) fp) ifs tt)
    (htt : ∀ (B' : Addr → Prop) (G' : Ev) (b : Bool) (σ : L2.St) (H : Hp) (Q : Bool → Hp → Prop), asB (ev S.F t G') = .ok b → StOk (cfg X O) B' G' σ H → (∀ H', Same H H' → Q b H') → tt σ H Q)
    (hE : ∀ (s : Shared) (H : Hp) (Cn : Addr) (cl : List (Str × Addr)) (fp : List Addr) (B' : Addr → Prop) (G' : Ev), PE (X.blk s H scope (compEnvC scope cl Cn X.env) fp) elt (tE (cfg X O) B' W0 G' (ev S.F e G'))) :
    PE X (.ListComp elt [⟨tg', iter, ifs, 0⟩] scope pos) (tE (cfg X O) B W G (ev S.F (.comp tg it t e) G)) ∧
      ∀ (i : Nat) (y : Str) (py spos : Pos), X.N[i]? = some y → X.env.scope.names.lookup y = some .local → swapsWith (.ListComp elt [⟨tg', iter, ifs, 0⟩] scope pos) (some (.Name y py)) spos.line X.env = pure true →
        PS X (.Assign [.Name y py] (.ListComp elt [⟨tg', iter, ifs, 0⟩] scope pos) spos) (tAsg (tE (cfg X O) B W G (ev S.F (.comp tg it t e) G)) (gName i)) := by
  have ok : BlkOk X.N X.env.scope scope (ownNames S tg) := by rw [C.N, C.sc]; exact blkOk_by hb
  have hG := fun (s : Shared) (H : Hp) (Cn : Addr) (cl : List (Str × Addr)) (fp : List Addr) => pg_tg (X := X.blk s H scope (compEnvC scope cl Cn X.env) fp) (S := S) (sl := stF scope) C.N C.nd (fun x hx => by
    unfold stF at hx
    rw [Bool.or_eq_true] at hx
    rcases hx with hx | hx
    · have k := lookup_relS_keep (sc := X.env.scope) (by decide) (of_decide_eq_true hx)
      exact ⟨.inl k, .inr k⟩
    · have k := lookup_relS_keep (sc := X.env.scope) (by decide) (of_decide_eq_true hx)
      exact ⟨.inr k, .inl (by show (scope.names.lookup x == some .cell) = true; rw [of_decide_eq_true hx]; rfl)⟩) C.calm ht
  have hE' := fun (s : Shared) (H : Hp) (Cn : Addr) (cl : List (Str × Addr)) (fp : List Addr) => PE.any (α := (Addr → Prop) × Ev) fun g => hE s H Cn cl fp g.1 g.2
  refine ⟨(pe_lc (g := gTg X.K tg) C.calm C.nd hI ok hG hT hE' hs).weak fun σ H Q hq => ?_, fun i y py spos hi hy hsw => (ps_setLc (g := gTg X.K tg) C.calm C.nd hi hy hsw hI ok hG hT hE' hs).weak fun D σ H hq => ?_⟩
  · rw [own_slots]
    exact comp_read (c := cfg X O) htt hq
  · rw [own_slots]
    exact comp_read (c := cfg X O) htt hq
end
end RA
/-! RA11: every expression that is checked comes to what the small language says. -/
namespace RA
open PySem PySem.Spec PyProof.Rows L2
variable [Tabs]
theorem PW.of {X : Cx} {op : BoolOp} {es : List Expr} {p : Pos} {t : TT} (h : PT X (.BoolOp op es p) t) : PW X (.BoolOp op es p) t := ⟨fun wh => h.run⟩
section
variable {O : OpT}
theorem ok_dnew {S : Stat} {X : Cx} {W : WX} {B : Addr → Prop} {G : Ev} {p : Pos} : PE X (.Dict [] [] p) (tE (cfg X O) B W G (ev S.F (.dct .nil .nil) G)) := by
  refine ⟨fun pins s σ H Q I ⟨Su, R⟩ => ?_⟩
  have R' : ∀ v H', Same H H' → RepF (cfg X O) (Zof B G σ) H H' (.own, .dct []) v → Q v H' := R
  have hb : sysModules < s.heap.objs.size := I.big
  have nf : H s.heap.objs.size = none := I.hok.fresh (Nat.le_refl _)
  let o : HO := .ext fun h => ([] : List (Leaf × Value)).length ≤ sizeLine ∧ (s.heap.objs.size == sysModules) = false ∧ h.DictOf (kindX X.prog X.w true) s.heap.objs.size []
  have hne : (s.heap.objs.size == sysModules) = false := beq_eq_false_iff_ne.mpr (Ne.symm (Nat.ne_of_lt hb))
  refine wpAny_Dict_empty ⟨.ref s.heap.objs.size, upd H s.heap.objs.size o, I.laid (a := s.heap.objs.size) (o := o) (t' := s.toks) (fun _ _ q => Heap.get?_push_of_some _ q) (Nat.le_refl _) ?_, rfl, R' _ _ (Same.new nf) ⟨_, rfl, nf, .dctK upd_same .nil⟩⟩
  refine ⟨⟨Nat.zero_le _, hne, Heap.DictOf.new s.heap⟩, ⟨_, Heap.get?_push_size _ rfl⟩, fun h1 h2 z k => ⟨z.1, z.2.1, z.2.2.at k⟩⟩
/-- {k: v} -/
def tD1 (c : Cfg) (e : Bool) (tk tv : TE) : TE := fun σ H Q => ∀ p, H p = none → tk σ (upd H p (.ext (phK c.P c.w e p []))) fun x H1 => tv σ H1 fun y H2 => H2 p = some (.ext (phK c.P c.w e p [])) ∧ ∃ (Z : Addr → Prop) (k d : D), leafy k = true ∧ e = !isBl k ∧ Rep c Z H2 k x ∧ Rep c Z H2 d y ∧
  ∀ us, RepK c Z H2 [(k, d)] us → Q (.ref p) (upd H2 p (.ext (phK c.P c.w e p us)))
theorem pe_disp1 {X : Cx} {e : Bool} {kx vx : Expr} {tk tv : TE} {pos : Pos} (hk : PE X kx tk) (hv : PE X vx tv) : PE X (.Dict [some kx] [vx] pos) (tD1 (cfg X O) e tk tv) := by
  refine ⟨fun pins s σ H Q I q => ?_⟩
  have hn := I.hok.fresh (Nat.le_refl s.heap.objs.size)
  have hb : sysModules < s.heap.objs.size := I.big
  have hne : (s.heap.objs.size == sysModules) = false := beq_eq_false_iff_ne.mpr (Ne.symm (Nat.ne_of_lt hb))
  have new0 : ObjOk X.prog X.w H (s.heap.push { cls := .type "dict", data := .dict #[] }) s.heap.objs.size (.ext (phK X.prog X.w e s.heap.objs.size [])) :=
    ⟨⟨Nat.zero_le _, hne, Heap.DictOf.new s.heap⟩, ⟨_, Heap.get?_push_size _ rfl⟩, fun h1 h2 z k => ⟨z.1, z.2.1, z.2.2.at k⟩⟩
  have I1 := I.laid (a := s.heap.objs.size) (o := .ext (phK X.prog X.w e s.heap.objs.size [])) (h' := s.heap.push { cls := .type "dict", data := .dict #[] }) (t' := s.toks) (fun _ _ q => Heap.get?_push_of_some _ q) (Nat.le_refl _) new0
  refine wpAny_Dict_walk (knd := kindX X.prog X.w e) rfl rfl (by simp) (by simp) (thn ((pps_cons hk hv pps_nil).run pins _ σ _ (fun ps H2 => match ps with
    | [(x, y)] => H2 s.heap.objs.size = some (.ext (phK X.prog X.w e s.heap.objs.size [])) ∧ ∃ (Z : Addr → Prop) (k d : D), leafy k = true ∧ e = !isBl k ∧ Rep (cfg X O) Z H2 k x ∧ Rep (cfg X O) Z H2 d y ∧
        ∀ us, RepK (cfg X O) Z H2 [(k, d)] us → Q (.ref s.heap.objs.size) (upd H2 s.heap.objs.size (.ext (phK X.prog X.w e s.heap.objs.size us)))
    | _ => False) I1 (q _ hn)) fun ws s2 ⟨ps, H2, I2, rel, hq⟩ => ?_)
  · split at hq
    rotate_left
    · exact hq.elim
    rename_i x y
    obtain ⟨e', Z, k, d, hl, he0, rk, rd, q2⟩ := hq
    cases rel with
    | @cons _ pq _ _ hp ht =>
      cases ht
      obtain ⟨u1, u2⟩ := pq
      obtain ⟨l, hl⟩ := leafy_of hl
      have ph := (show ObjOk X.prog X.w H2 s2.heap s.heap.objs.size _ from I2.hok _ _ e').1
      refine ⟨[(l, u2)], ⟨leaf_is hl (fun z => not_bl (he0 ▸ z)) rk hp.1, rfl, True.intro⟩, ph.2.2, fun h' dd' hs => ⟨.ref s.heap.objs.size, _, ?_, rfl, q2 [(l, u2)] (.cons hl rd hp.2 .nil)⟩⟩
      have he : ∃ q, h'.get? s.heap.objs.size = some q := let ⟨q, _, _, hq, _⟩ := dd'; ⟨q, hq⟩
      exact d_write I2 (by rw [e']; exact True.intro) hs he ⟨⟨by rw [List.length_singleton, sizeLine_eq]; omega, hne, dd'⟩, he, fun h1 h2 z k => ⟨z.1, z.2.1, z.2.2.at k⟩⟩
/-- {k: v}, k a tuple -/
def tD1T (c : Cfg) (tk tv : TE) : TE := fun σ H Q => ∀ p, H p = none → tk σ (upd H p (.ext (phT c.P c.w p []))) fun x H1 => tv σ H1 fun y H2 => H2 p = some (.ext (phT c.P c.w p [])) ∧ ∃ (Z : Addr → Prop) (k d : D), tupKey k = true ∧ Rep c Z H2 k x ∧ Rep c Z H2 d y ∧
  ∀ us, RepT c Z H2 [(k, d)] us → Q (.ref p) (upd H2 p (.ext (phT c.P c.w p us)))
theorem pe_disp1T {X : Cx} {kx vx : Expr} {tk tv : TE} {pos : Pos} (hu : X.A.units + 64 < cLine) (hk : PE X kx tk) (hv : PE X vx tv) : PE X (.Dict [some kx] [vx] pos) (tD1T (cfg X O) tk tv) := by
  refine ⟨fun pins s σ H Q I q => ?_⟩
  have hn := I.hok.fresh (Nat.le_refl s.heap.objs.size)
  have hb : sysModules < s.heap.objs.size := I.big
  have hne : (s.heap.objs.size == sysModules) = false := beq_eq_false_iff_ne.mpr (Ne.symm (Nat.ne_of_lt hb))
  have newH : (s.heap.push { cls := .type "dict", data := .dict #[] }).DictOfH (nestedKind X.prog X.w) s.heap.objs.size [] := Heap.DictOfH.new s.heap
  have ph0 := phT_of (X := X) (us := []) (Nat.zero_le _) hne newH
  have new0 : ObjOk X.prog X.w H (s.heap.push { cls := .type "dict", data := .dict #[] }) s.heap.objs.size (.ext (phT X.prog X.w s.heap.objs.size [])) :=
    ⟨ph0, ⟨_, Heap.get?_push_size _ rfl⟩, fun h1 h2 z k => phT_at h1 h2 z k⟩
  have I1 := I.laid (a := s.heap.objs.size) (o := .ext (phT X.prog X.w s.heap.objs.size [])) (h' := s.heap.push { cls := .type "dict", data := .dict #[] }) (t' := s.toks) (fun _ _ q => Heap.get?_push_of_some _ q) (Nat.le_refl _) new0
  have hr : (nestedKind X.prog X.w).room X.A := by show X.A.units + 8 < cLine; omega
  refine wpAny_Dict_one hr (thn ((pps_cons hk hv pps_nil).run pins _ σ _ (fun ps H2 => match ps with
    | [(x, y)] => H2 s.heap.objs.size = some (.ext (phT X.prog X.w s.heap.objs.size [])) ∧ ∃ (Z : Addr → Prop) (k d : D), tupKey k = true ∧ Rep (cfg X O) Z H2 k x ∧ Rep (cfg X O) Z H2 d y ∧
        ∀ us, RepT (cfg X O) Z H2 [(k, d)] us → Q (.ref s.heap.objs.size) (upd H2 s.heap.objs.size (.ext (phT X.prog X.w s.heap.objs.size us)))
    | _ => False) I1 (q _ hn)) fun ws s2 ⟨ps, H2, I2, rel, hq⟩ => ?_)
  · split at hq
    rotate_left
    · exact hq.elim
    rename_i x y
    obtain ⟨e, Z, k, d, hl, rk, rd, q2⟩ := hq
    cases rel with
    | @cons _ pq _ _ hp ht =>
      cases ht
      obtain ⟨u1, u2⟩ := pq
      obtain ⟨ks, l, rfl, hl, hdp⟩ := tupKey_of hl
      obtain ⟨q0, rfl, kq⟩ := RepF.tupv (H0 := H2) (f := .val) rk
      obtain rfl : u1 = Value.ref q0 := hp.1
      have ph := (show ObjOk X.prog X.w H2 s2.heap s.heap.objs.size _ from I2.hok _ _ e).1
      refine ⟨q0, l, u2, rfl, ⟨key_is I2 kq hl rfl, hdp⟩, dictH (O := O) (Z := Z) I2 .nil ph, fun h' dd' hs t => ⟨.ref s.heap.objs.size, _, ?_, rfl, q2 [(l, q0, u2)] (.cons hl hdp kq rd hp.2 .nil)⟩⟩
      have he : ∃ q, h'.get? s.heap.objs.size = some q := let ⟨q, _, _, hq, _⟩ := dd'; ⟨q, hq⟩
      exact d_write I2 (by rw [e]; exact True.intro) hs he ⟨phT_of (by rw [List.length_singleton, sizeLine_eq]; omega) hne dd', he, fun h1 h2 z k => phT_at h1 h2 z k⟩
theorem exc_less {c : Cfg} {Z Z' : Addr → Prop} {H : Hp} {x : Nat} {fs : List D} {cls : Value} {dd : Option Addr} (h : ExcAt c Z H x fs cls dd) (hz : ∀ b, Z' b → Z b) : ExcAt c Z' H x fs cls dd :=
  ⟨h.1, h.2.imp id fun ⟨d, vs, e1, nb, e2, e3⟩ => ⟨d, vs, e1, fun z => nb (hz d z), e2, e3.less hz⟩⟩
theorem ok_dct1L {S : Stat} {X : Cx} {W : WX} {B : Addr → Prop} {G : Ev} {k v : IE} {kx vx : Expr} {p : Pos} (hk : ∀ B', PE X kx (tE (cfg X O) B' W G (ev S.F k G))) (hv : ∀ B', PE X vx (tE (cfg X O) B' W G (ev S.F v G))) :
    PE X (.Dict [some kx] [vx] p) (fun σ H Q => (∀ r, ev S.F k G = .ok r → tupKey r.2 = false) ∧ tE (cfg X O) B W G (ev S.F (.dct (.cons k .nil) (.cons v .nil)) G) σ H Q) := by
  generalize he : (match ev S.F k G with | .ok r => !isBl r.2 | _ => true) = e0
  refine (pe_disp1 (O := O) (e := e0) (PE.any hk) (PE.any hv)).weak fun σ H Q ⟨nt, Su, R⟩ => ?_
  intro a na
  have sm := Same.new (o := .ext (phK X.prog X.w e0 a [])) na
  have Sm := Su.more sm na (by rw [upd_same]; intro z; cases z)
  have lz : ∀ b, Zof B G σ b → Zof (fun b => B b ∨ b = a) G σ b := fun b z => z.imp .inl id
  simp only [ev, evs] at R
  refine ⟨fun b => B b ∨ b = a, Sm, ?_⟩
  cases ek : ev S.F k G with
  | no => rw [ek] at R; exact R
  | ex n fs => rw [ek] at R; exact fun cls dd H' s e => R cls dd H' (sm.trans s) (exc_less e lz)
  | ok rk =>
    rw [ek] at R he
    have he : (!isBl rk.2) = e0 := he
    refine fun x H1 s1 hx => ⟨fun b => B b ∨ b = a, Sm.same s1, ?_⟩
    cases ev' : ev S.F v G with
    | no => rw [ev'] at R; exact R
    | ex n fs => rw [ev'] at R; exact fun cls dd H' s e => R cls dd H' ((sm.trans s1).trans s) (exc_less e lz)
    | ok rv =>
      rw [ev'] at R
      refine fun y H2 s2 hy => ⟨s2.keep _ _ (s1.keep _ _ upd_same trivial) trivial, Zof (fun b => B b ∨ b = a) G σ, rk.2, rv.2, ?_⟩
      have R' : ResE (cfg X O) B (Zof B G σ) W σ H (match putAll [rk] [rv] [] with | some kvs => .ok (.own, .dct kvs) | none => .no) Q := R
      have ep : putAll [rk] [rv] [] = if (keysOk [] rk.2 && decide (rv.1 ≠ .tmp)) = true then some [(rk.2, rv.2)] else none := rfl
      rw [ep] at R'
      split at R'
      · rename_i kvs e
        split at e
        · rename_i hc
          cases e
          rw [Bool.and_eq_true] at hc
          have hl : leafy rk.2 = true := by
            have := hc.1
            unfold keysOk keysL keysT at this
            rw [nt rk ek, Bool.false_and, Bool.or_false, Bool.and_eq_true] at this
            exact this.1
          have hf := of_decide_eq_true hc.2
          obtain ⟨l, hl'⟩ := leafy_of hl
          refine ⟨hl, he.symm, (leaf_rep hl' hx).same s2, hy.keep hf (Sm.same s1).ztr, fun us ru => ?_⟩
          have ez : Ext (fun b => Zof B G σ b ∨ b = a) H2 (upd H2 a (.ext (phK X.prog X.w e0 a us))) := Ext.upd (s2.keep _ _ (s1.keep _ _ upd_same trivial) trivial) trivial (.inr rfl)
          refine R' _ _ (((sm.trans s1).trans s2).updNew na (s2.keep _ _ (s1.keep _ _ upd_same trivial) trivial) trivial) ⟨a, rfl, na, OwnAt.dctK (us := us) (by rw [upd_same, show noBl [(rk.2, rv.2)] = e0 from by rw [← he]; simp [noBl]]; rfl) (RepK.mono ez (RepK.grow (fun b z => .inl ?_) ru))⟩
          rcases z with z | z
          · exact lz b z
          · exact .inl (.inr z)
        · cases e
      · exact False.elim R'
theorem ok_dct1T {S : Stat} {X : Cx} {W : WX} {B : Addr → Prop} {G : Ev} {k v : IE} {kx vx : Expr} {p : Pos} (hu : X.A.units + 64 < cLine) (hk : ∀ B', PE X kx (tE (cfg X O) B' W G (ev S.F k G))) (hv : ∀ B', PE X vx (tE (cfg X O) B' W G (ev S.F v G))) :
    PE X (.Dict [some kx] [vx] p) (fun σ H Q => (∀ r, ev S.F k G = .ok r → tupKey r.2 = true) ∧ tE (cfg X O) B W G (ev S.F (.dct (.cons k .nil) (.cons v .nil)) G) σ H Q) := by
  refine (pe_disp1T (O := O) hu (PE.any hk) (PE.any hv)).weak fun σ H Q ⟨nt, Su, R⟩ => ?_
  intro a na
  have sm := Same.new (o := .ext (phT X.prog X.w a [])) na
  have Sm := Su.more sm na (by rw [upd_same]; intro z; cases z)
  have lz : ∀ b, Zof B G σ b → Zof (fun b => B b ∨ b = a) G σ b := fun b z => z.imp .inl id
  simp only [ev, evs] at R
  refine ⟨fun b => B b ∨ b = a, Sm, ?_⟩
  cases ek : ev S.F k G with
  | no => rw [ek] at R; exact R
  | ex n fs => rw [ek] at R; exact fun cls dd H' s e => R cls dd H' (sm.trans s) (exc_less e lz)
  | ok rk =>
    rw [ek] at R
    refine fun x H1 s1 hx => ⟨fun b => B b ∨ b = a, Sm.same s1, ?_⟩
    cases ev' : ev S.F v G with
    | no => rw [ev'] at R; exact R
    | ex n fs => rw [ev'] at R; exact fun cls dd H' s e => R cls dd H' ((sm.trans s1).trans s) (exc_less e lz)
    | ok rv =>
      rw [ev'] at R
      refine fun y H2 s2 hy => ⟨s2.keep _ _ (s1.keep _ _ upd_same trivial) trivial, Zof (fun b => B b ∨ b = a) G σ, rk.2, rv.2, ?_⟩
      have R' : ResE (cfg X O) B (Zof B G σ) W σ H (match putAll [rk] [rv] [] with | some kvs => .ok (.own, .dct kvs) | none => .no) Q := R
      have ep : putAll [rk] [rv] [] = if (keysOk [] rk.2 && decide (rv.1 ≠ .tmp)) = true then some [(rk.2, rv.2)] else none := rfl
      rw [ep] at R'
      split at R'
      · rename_i kvs e
        split at e
        · rename_i hc
          cases e
          rw [Bool.and_eq_true] at hc
          have hl : tupKey rk.2 = true := nt rk ek
          have hf := of_decide_eq_true hc.2
          obtain ⟨ks, l, hks, _, _⟩ := tupKey_of hl
          have hkr : Rep (cfg X O) (Zof (fun b => B b ∨ b = a) G σ) H1 rk.2 x := by
            obtain ⟨fk, dk⟩ := rk
            dsimp only at hks; subst hks
            obtain ⟨q0, rfl, kq⟩ := RepF.tupv hx
            exact kq
          refine ⟨hl, hkr.same s2, hy.keep hf (Sm.same s1).ztr, fun us ru => ?_⟩
          have ez : Ext (fun b => Zof B G σ b ∨ b = a) H2 (upd H2 a (.ext (phT X.prog X.w a us))) := Ext.upd (s2.keep _ _ (s1.keep _ _ upd_same trivial) trivial) trivial (.inr rfl)
          refine R' _ _ (((sm.trans s1).trans s2).updNew na (s2.keep _ _ (s1.keep _ _ upd_same trivial) trivial) trivial) ⟨a, rfl, na, OwnAt.dctT (us := us) upd_same (RepT.mono ez (RepT.grow (fun b z => .inl ?_) ru))⟩
          rcases z with z | z
          · exact lz b z
          · exact .inl (.inr z)
        · cases e
      · exact False.elim R'
theorem ok_dct1 {S : Stat} {X : Cx} {W : WX} {B : Addr → Prop} {G : Ev} {k v : IE} {kx vx : Expr} {p : Pos} (hu : X.A.units + 64 < cLine) (hk : ∀ B', PE X kx (tE (cfg X O) B' W G (ev S.F k G))) (hv : ∀ B', PE X vx (tE (cfg X O) B' W G (ev S.F v G))) :
    PE X (.Dict [some kx] [vx] p) (tE (cfg X O) B W G (ev S.F (.dct (.cons k .nil) (.cons v .nil)) G)) := by
  by_cases h : ∃ r, ev S.F k G = .ok r ∧ tupKey r.2 = true
  · obtain ⟨r, e, ht⟩ := h
    exact (ok_dct1T hu hk hv).weak fun σ H Q hq => ⟨fun r' e' => by rw [e] at e'; cases e'; exact ht, hq⟩
  · exact (ok_dct1L hk hv).weak fun σ H Q hq => ⟨fun r' e' => by
      cases q : tupKey r'.2 with
      | false => rfl
      | true => exact absurd ⟨r', e', q⟩ h, hq⟩
theorem comp_both {S : Stat} {X : Cx} {W : WX} {sc : Scope} {B : Addr → Prop} {G : Ev} {tg : Tg} {it : II} {t e' : IE} {tg' iter elt : Expr} {ifs : List Expr} {scope : Scope} {pos : Pos} (C : CtxOk S X O W sc) (h1 : blkC S.N sc scope (ownNames S tg) = true) (h2 : okT S (stF scope) tg tg' = true)
    (hI : PI X tg' iter (tI (cfg X O) B W G (evI S.F it G))) (hs : ∀ x, foldedSetIterable iter X.env x = pure x) (h5 : ((ifs.isEmpty && isYes t) || (decide (ifs.length = 1) && isTst t && okE S t (relS scope sc) (headE ifs))) = true)
    (hE : ∀ (s : Shared) (H : Hp) (Cn : Addr) (cl : List (Str × Addr)) (fp : List Addr) (B' : Addr → Prop) (G' : Ev), PE (X.blk s H scope (compEnvC scope cl Cn X.env) fp) elt (tE (cfg X O) B' W0 G' (ev S.F e' G')))
    (hTst : isTst t = true → okE S t (relS scope sc) (headE ifs) = true → ∀ (s : Shared) (H : Hp) (Cn : Addr) (cl : List (Str × Addr)) (fp : List Addr) (B' : Addr → Prop) (G' : Ev), PT (X.blk s H scope (compEnvC scope cl Cn X.env) fp) (headE ifs) (tT (cfg X O) B' W0 G' (asB (ev S.F t G')))) :
    PE X (.ListComp elt [⟨tg', iter, ifs, 0⟩] scope pos) (tE (cfg X O) B W G (ev S.F (.comp tg it t e') G)) ∧
      ∀ (i : Nat) (y : Str) (py spos : Pos), X.N[i]? = some y → X.env.scope.names.lookup y = some .local → swapsWith (.ListComp elt [⟨tg', iter, ifs, 0⟩] scope pos) (some (.Name y py)) spos.line X.env = pure true →
        PS X (.Assign [.Name y py] (.ListComp elt [⟨tg', iter, ifs, 0⟩] scope pos) spos) (tAsg (tE (cfg X O) B W G (ev S.F (.comp tg it t e') G)) (gName i)) := by
  rw [Bool.or_eq_true] at h5
  rcases h5 with h5 | h5
  · rw [Bool.and_eq_true] at h5
    have e1 : ifs = [] := by simpa using h5.1
    subst e1
    have e2 : t = .k (.bl true) := by
      have := h5.2
      unfold isYes at this
      split at this
      · rfl
      · cases this
    subst e2
    refine ok_comp C.toCtxB h1 h2 hI hs (fun s H Cn cl fp => pts_nil) (fun B' G' b σ H Q e Su q => ?_) hE
    cases e
    exact q H (Same.refl H)
  · rw [Bool.and_eq_true, Bool.and_eq_true] at h5
    obtain ⟨⟨h6, h7⟩, h8⟩ := h5
    have h6 := of_decide_eq_true h6
    match ifs, h6, h8, hTst with
    | [c], _, h8, hTst =>
      refine ok_comp (tt := fun σ H Q => ∃ g : (Addr → Prop) × Ev, tT (cfg X O) g.1 W0 g.2 (asB (ev S.F t g.2)) σ H Q) C.toCtxB h1 h2 hI hs (fun s H Cn cl fp => pts_one (PT.any (α := (Addr → Prop) × Ev) fun g => hTst h7 h8 s H Cn cl fp g.1 g.2)) (fun B' G' b σ H Q e Su q => ?_) hE
      refine ⟨(B', G'), Su, ?_⟩
      rw [e]
      exact q
theorem okE_lset {S : Stat} {x : IE} {sc : Scope} {e : Expr} (h : okE S (.lset x) sc e = true) : ∃ y p z p2 b q pos, e = .Call (.Name y p) [.Call (.Name z p2) [b] [] q] [] pos ∧ (okB S sc "len" y && okB S sc "set" z && okE S x sc b) = true := by
  cases e <;> first | exact absurd h Bool.false_ne_true | skip
  rename_i fn es kws pos
  cases fn <;> first | exact absurd h Bool.false_ne_true | skip
  rename_i y p
  cases es with
  | nil => exact absurd h Bool.false_ne_true
  | cons a es =>
    cases es with
    | cons _ _ => exact absurd h Bool.false_ne_true
    | nil =>
      cases kws with
      | cons _ _ => exact absurd h Bool.false_ne_true
      | nil =>
        have h : (match callN a with | some (z, [b]) => okB S sc "len" y && okB S sc "set" z && okE S x sc b | _ => false) = true := h
        split at h
        · rename_i z b e2
          obtain ⟨p2, q, rfl⟩ := callN_of e2
          exact ⟨y, p, z, p2, b, q, pos, rfl, h⟩
        · cases h
mutual
theorem ev_ok (S : Stat) : ∀ (x : IE) (X : Cx) (W : WX) (sc : Scope) (B : Addr → Prop) (G : Ev) (e : Expr), CtxOk S X O W sc → okE S x sc e = true → PE X e (tE (cfg X O) B W G (ev S.F x G)) ∧ (isTst x = true → PT X e (tT (cfg X O) B W G (asB (ev S.F x G))))
  | .v i, X, W, sc, B, G, e, C, h => by
    cases e <;> first | (simp [okE] at h; done) | skip
    have k := ok_v C.toCtxB (O := O) (B := B) (G := G) (p := ‹Pos›) (by simpa only [okE] using h)
    exact ⟨k, fun _ => test_of k fun _ => rfl⟩
  | .pk i, X, W, sc, B, G, e, C, h => by
    cases e <;> first | (simp [okE] at h; done) | skip
    exact ⟨ok_pk C.toCtxB (by simpa only [okE] using h), fun z => by cases z⟩
  | .pv i, X, W, sc, B, G, e, C, h => by
    cases e <;> first | (simp [okE] at h; done) | skip
    exact ⟨ok_pv C.toCtxB (by simpa only [okE] using h), fun z => by cases z⟩
  | .k d, X, W, sc, B, G, e, C, h => by
    cases e <;> first | (simp [okE] at h; done) | skip
    exact ⟨ok_k (by simpa only [okE] using h), fun z => by cases z⟩
  | .gl n, X, W, sc, B, G, e, C, h => by
    cases e <;> first | (simp [okE] at h; done) | skip
    have k := ok_gl C.toCtxB (O := O) (B := B) (G := G) (p := ‹Pos›) (by simpa only [okE] using h)
    exact ⟨k, fun _ => test_of k fun _ => rfl⟩
  | .b op x y, X, W, sc, B, G, e, C, h => by
    cases e <;> first | (simp [okE] at h; done) | skip
    simp only [okE, Bool.and_eq_true] at h
    exact ⟨ok_b h.1.1 (ev_ok S x X W sc B G _ C h.1.2).1 (ev_ok S y X W sc B G _ C h.2).1, fun z => by cases z⟩
  | .neg x, X, W, sc, B, G, e, C, h => by
    cases e <;> first | (simp [okE] at h; done) | skip
    rename_i op _ _
    cases op <;> first | (simp [okE] at h; done) | skip
    simp only [okE] at h
    exact ⟨ok_neg (ev_ok S x X W sc B G _ C h).1, fun z => by cases z⟩
  | .cmp op x y, X, W, sc, B, G, e, C, h => by
    cases e <;> first | (simp [okE] at h; done) | skip
    rename_i l ops cs p
    cases ops with
    | nil => simp [okE] at h
    | cons o os =>
      cases os with
      | cons _ _ => simp [okE] at h
      | nil =>
        cases cs with
        | nil => simp [okE] at h
        | cons r rs =>
          cases rs with
          | cons _ _ => simp [okE] at h
          | nil =>
            simp only [okE, Bool.and_eq_true] at h
            have hl := (ev_ok S x X W sc B G _ C h.1.2).1
            have hr := (ev_ok S y X W sc B G _ C h.2).1
            have hm := notSet h.2 o
            exact ⟨ok_cmp (by have := C.room.un; omega) h.1.1 hm hl hr, fun _ => okT_cmp (by have := C.room.un; omega) h.1.1 hm hl hr⟩
  | .and_ x y, X, W, sc, B, G, e, C, h => by
    cases e <;> first | (simp [okE] at h; done) | skip
    rename_i op es p
    cases op <;> first | (simp [okE] at h; done) | skip
    match es, h with
    | [], h => simp [okE] at h
    | [_], h => simp [okE] at h
    | [a, b], h =>
      simp only [okE, Bool.and_eq_true, List.isEmpty_nil, if_true] at h
      obtain ⟨h1, h2⟩ := ev_ok S x X W sc B G _ C h.1
      obtain ⟨h3, h4⟩ := ev_ok S y X W sc B G _ C h.2
      refine ⟨ok_and h1 (pe_one h3), fun z => ?_⟩
      simp only [isTst, Bool.and_eq_true] at z
      exact okT_and (h2 z.1) (pw_and1 (h4 z.2))
    | a :: b :: c :: rest, h =>
      simp only [okE, Bool.and_eq_true, List.isEmpty_cons, Bool.false_eq_true, if_false] at h
      obtain ⟨h1, h2⟩ := ev_ok S x X W sc B G _ C h.1
      obtain ⟨h3, h4⟩ := ev_ok S y X W sc B G _ C h.2
      refine ⟨ok_and h1 h3, fun z => ?_⟩
      simp only [isTst, Bool.and_eq_true] at z
      exact okT_and (h2 z.1) (PW.of (h4 z.2))
  | .or_ x y, X, W, sc, B, G, e, C, h => by
    cases e <;> first | (simp [okE] at h; done) | skip
    rename_i op es p
    cases op <;> first | (simp [okE] at h; done) | skip
    match es, h with
    | [], h => simp [okE] at h
    | [_], h => simp [okE] at h
    | [a, b], h =>
      simp only [okE, Bool.and_eq_true, List.isEmpty_nil, if_true] at h
      obtain ⟨h1, h2⟩ := ev_ok S x X W sc B G _ C h.1
      obtain ⟨h3, h4⟩ := ev_ok S y X W sc B G _ C h.2
      refine ⟨ok_or h1 (pe_one h3), fun z => ?_⟩
      simp only [isTst, Bool.and_eq_true] at z
      exact okT_or (h2 z.1) (pw_or1 (h4 z.2))
    | a :: b :: c :: rest, h =>
      simp only [okE, Bool.and_eq_true, List.isEmpty_cons, Bool.false_eq_true, if_false] at h
      obtain ⟨h1, h2⟩ := ev_ok S x X W sc B G _ C h.1
      obtain ⟨h3, h4⟩ := ev_ok S y X W sc B G _ C h.2
      refine ⟨ok_or h1 h3, fun z => ?_⟩
      simp only [isTst, Bool.and_eq_true] at z
      exact okT_or (h2 z.1) (PW.of (h4 z.2))
  | .not_ x, X, W, sc, B, G, e, C, h => by
    cases e <;> first | (simp [okE] at h; done) | skip
    rename_i op _ _
    cases op <;> first | (simp [okE] at h; done) | skip
    simp only [okE] at h
    obtain ⟨h1, h2⟩ := ev_ok S x X W sc B G _ C h
    exact ⟨ok_not h1, fun z => okT_not (h2 (by simpa only [isTst] using z))⟩
  | .ife t x y, X, W, sc, B, G, e, C, h => by
    cases e <;> first | (simp [okE] at h; done) | skip
    simp only [okE, Bool.and_eq_true] at h
    exact ⟨ok_ife ((ev_ok S t X W sc B G _ C h.1.1.2).2 h.1.1.1) (ev_ok S x X W sc B G _ C h.1.2).1 (ev_ok S y X W sc B G _ C h.2).1, fun z => by cases z⟩
  | .tup as, X, W, sc, B, G, e, C, h => by
    cases e <;> first | (simp [okE] at h; done) | skip
    simp only [okE] at h
    exact ⟨ok_tup (evs_ok S as X W sc B G _ C h), fun z => by cases z⟩
  | .lst as, X, W, sc, B, G, e, C, h => by
    cases e <;> first | (simp [okE] at h; done) | skip
    simp only [okE] at h
    exact ⟨ok_lst (evs_ok S as X W sc B G _ C h), fun z => by cases z⟩
  | .dct ks vs, X, W, sc, B, G, e, C, h => by
    cases e <;> first | (cases ks <;> cases vs <;> simp [okE] at h; done) | skip
    rename_i keys vals p
    cases ks with
    | nil =>
      cases vs <;> cases keys <;> cases vals <;> first | exact absurd h Bool.false_ne_true | skip
      exact ⟨ok_dnew, fun z => by cases z⟩
    | cons k ks =>
      cases ks with
      | cons _ _ => cases vs <;> exact absurd h Bool.false_ne_true
      | nil =>
        cases vs with
        | nil => exact absurd h Bool.false_ne_true
        | cons v vs =>
          cases vs with
          | cons _ _ => exact absurd h Bool.false_ne_true
          | nil =>
            match keys, vals, h with
            | [], _, h => exact absurd h Bool.false_ne_true
            | [none], _, h => exact absurd h Bool.false_ne_true
            | [some _], [], h => exact absurd h Bool.false_ne_true
            | [some kx], [vx], h =>
              have h : (okE S k sc kx && okE S v sc vx) = true := h
              rw [Bool.and_eq_true] at h
              exact ⟨ok_dct1 C.room.units (fun B' => (ev_ok S k X W sc B' G _ C h.1).1) (fun B' => (ev_ok S v X W sc B' G _ C h.2).1), fun z => by cases z⟩
            | [some _], _ :: _ :: _, h => exact absurd h Bool.false_ne_true
            | none :: _ :: _, _, h => exact absurd h Bool.false_ne_true
            | some _ :: _ :: _, _, h => exact absurd h Bool.false_ne_true
  | .ix x i, X, W, sc, B, G, e, C, h => by
    cases e <;> first | (simp [okE] at h; done) | skip
    simp only [okE, Bool.and_eq_true] at h
    have k := ok_ix (p := ‹Pos›) C.room.units (okE_plain h.2) (ev_ok S x X W sc B G _ C h.1).1 (ev_ok S i X W sc B G _ C h.2).1
    exact ⟨k, fun _ => test_of k fun _ => rfl⟩
  | .sl x lo hi, X, W, sc, B, G, e, C, h => by
    cases e <;> first | (simp [okE] at h; done) | skip
    rename_i o s p
    cases s <;> first | (simp [okE] at h; done) | skip
    rename_i l u st p2
    cases st with
    | some _ => simp [okE] at h
    | none =>
      have h : (okE S x sc o && (if l.isNone = true then isOut lo else !isOut lo && okE S lo sc (l.getD (headE []))) && (if u.isNone = true then isOut hi else !isOut hi && okE S hi sc (u.getD (headE [])))) = true := h
      rw [Bool.and_eq_true, Bool.and_eq_true] at h
      refine ⟨ok_sl (ev_ok S x X W sc B G _ C h.1.1).1 ?_ ?_, fun z => by cases z⟩
      · have h := h.1.2
        cases l with
        | none =>
          have h : isOut lo = true := h
          cases lo <;> first | exact ok_part0 | cases h
        | some l =>
          have h : (!isOut lo && okE S lo sc l) = true := h
          rw [Bool.and_eq_true] at h
          exact ok_partE (ev_ok S lo X W sc B G _ C h.2).1 (by simpa using h.1)
      · have h := h.2
        cases u with
        | none =>
          have h : isOut hi = true := h
          cases hi <;> first | exact ok_part0 | cases h
        | some l =>
          have h : (!isOut hi && okE S hi sc l) = true := h
          rw [Bool.and_eq_true] at h
          exact ok_partE (ev_ok S hi X W sc B G _ C h.2).1 (by simpa using h.1)
  | .rv x, X, W, sc, B, G, e, C, h => by
    cases e <;> first | exact absurd h Bool.false_ne_true | skip
    rename_i o sx p
    cases sx <;> first | exact absurd h Bool.false_ne_true | skip
    rename_i l u st p2
    cases l with
    | some _ => cases st <;> exact absurd h Bool.false_ne_true
    | none =>
      cases u with
      | some _ => exact absurd h Bool.false_ne_true
      | none =>
        cases st with
        | none => exact absurd h Bool.false_ne_true
        | some st =>
          cases st <;> first | exact absurd h Bool.false_ne_true | skip
          rename_i op oe p3
          cases op <;> first | exact absurd h Bool.false_ne_true | skip
          cases oe <;> first | exact absurd h Bool.false_ne_true | skip
          rename_i cv kk p4
          cases cv <;> first | exact absurd h Bool.false_ne_true | skip
          rename_i j
          have h : (decide (j = 1) && okE S x sc o) = true := h
          rw [Bool.and_eq_true] at h
          have hj : j = 1 := of_decide_eq_true h.1
          subst hj
          exact ⟨ok_rv (ev_ok S x X W sc B G _ C h.2).1, fun z => by cases z⟩
  | .lset x, X, W, sc, B, G, e, C, h => by
    obtain ⟨y, p, z, p2, b, q, pos, rfl, h'⟩ := okE_lset h
    rw [Bool.and_eq_true, Bool.and_eq_true] at h'
    exact ⟨ok_lset C.toCtxB h'.1.1 h'.1.2 (okE_plain h'.2) (ev_ok S x X W sc B G _ C h'.2).1, fun z => by cases z⟩
  | .out, X, W, sc, B, G, e, C, h => by
    cases e <;> simp [okE] at h
  | .bi f as, X, W, sc, B, G, e, C, h => by
    cases e <;> first | (simp [okE] at h; done) | skip
    rename_i fn es kws pos
    cases fn <;> first | (simp [okE] at h; done) | skip
    rename_i x p
    cases kws with
    | cons _ _ => simp [okE] at h
    | nil =>
      have h : (okB S sc (bfName f) x && (if isTy f = true then okA S as sc (es.take 1) && okTy2 S sc f es else okA S as sc es && !es.isEmpty)) = true := h
      rw [Bool.and_eq_true] at h
      obtain ⟨hb, h⟩ := h
      have key : PE X (.Call (.Name x p) es [] pos) (tE (cfg X O) B W G (ev S.F (.bi f as) G)) := by
        split at h
        · rename_i hf
          rw [Bool.and_eq_true] at h
          obtain ⟨h1, h2⟩ := h
          unfold okTy2 at h2
          split at h2
          · rename_i a y p2
            cases as with
            | nil => simp [okA] at h1
            | cons x as =>
              simp only [List.take_succ_cons, List.take_zero, okA, Bool.and_eq_true] at h1
              cases as with
              | cons _ _ => simp [okA] at h1
              | nil => exact ok_is C.toCtxB hb hf h2 (okE_plain h1.1) (ev_ok S x X W sc B G _ C h1.1).1
          · cases h2
        · rename_i hf
          simp only [Bool.and_eq_true] at h
          exact ok_bi C.toCtxB hb (by simpa using hf) (by simpa using h.2) h.1 (evs_ok S as X W sc B G _ C h.1)
      exact ⟨key, fun _ => test_of key fun _ => rfl⟩
  | .lix o x, X, W, sc, B, G, e, C, h => by
    cases e <;> first | (simp [okE] at h; done) | skip
    rename_i fn es kws cpos
    cases fn <;> first | (simp [okE] at h; done) | skip
    rename_i b y apos
    cases kws with
    | cons _ _ => simp [okE] at h
    | nil =>
      cases es with
      | nil => simp [okE] at h
      | cons a es =>
        cases es with
        | cons _ _ => simp [okE] at h
        | nil =>
          simp only [okE, Bool.and_eq_true, decide_eq_true_eq] at h
          obtain ⟨⟨⟨⟨rfl, h2⟩, h3⟩, h4⟩, h6⟩ := h
          exact ⟨ok_lix (by have := C.room.un; omega) h2 (okE_plain h4) (attrBase h6) (ev_ok S o X W sc B G _ C h3).1 (ev_ok S x X W sc B G _ C h4).1, fun z => by cases z⟩
  | .me m o as, X, W, sc, B, G, e, C, h => by
    cases e <;> first | (simp [okE] at h; done) | skip
    rename_i fn es kws cpos
    cases fn <;> first | (simp [okE] at h; done) | skip
    rename_i b y apos
    cases kws with
    | cons _ _ => simp [okE] at h
    | nil =>
      simp only [okE, Bool.and_eq_true, decide_eq_true_eq] at h
      obtain ⟨⟨⟨⟨⟨h1, h2⟩, h3⟩, h4⟩, h5⟩, h6⟩ := h
      cases as with
      | nil =>
        cases es with
        | nil => simp at h5
        | cons _ _ => simp [okA] at h4
      | cons x as =>
        cases es with
        | nil => simp at h5
        | cons a es =>
          cases es with
          | cons _ _ => simp at h5
          | nil =>
            simp only [okA, Bool.and_eq_true] at h4
            cases as with
            | cons _ _ => simp [okA] at h4
            | nil => exact ⟨ok_me h1 h2 (okE_plain h4.1) (attrBase h6) (ev_ok S o X W sc B G _ C h3).1 (ev_ok S x X W sc B G _ C h4.1).1, fun z => by cases z⟩
  | .call n as, X, W, sc, B, G, e, C, h => by
    cases e <;> first | (simp [okE] at h; done) | skip
    rename_i fn es kws pos
    cases fn <;> first | (simp [okE] at h; done) | skip
    rename_i x p
    cases kws with
    | cons _ _ => simp [okE] at h
    | nil =>
      simp only [okE] at h
      have h' : ((decide (S.nm n = x) && S.us.contains n && isGl sc x && plainN x) && okA S as sc es && !es.isEmpty) = true := h
      rw [Bool.and_eq_true, Bool.and_eq_true] at h'
      have key := ok_call (pos := pos) (p := p) C.toCtxB h'.1.1 (by simpa using h'.2) h'.1.2 (evs_ok S as X W sc B G _ C h'.1.2)
      exact ⟨key, fun _ => test_of key fun _ => rfl⟩
  | .comp tg it t e', X, W, sc, B, G, e, C, h => by
    cases e <;> first | (simp [okE] at h; done) | skip
    rename_i elt gens scope pos
    match gens, h with
    | [], h => simp [okE] at h
    | _ :: _ :: _, h => simp [okE] at h
    | [⟨tg', iter, ifs, k⟩], h =>
        have h : (decide (k = 0) && blkC S.N sc scope (ownNames S tg) && okT S (stF scope) tg tg' && okI S it sc tg' iter && okE S e' (relS scope sc) elt &&
          ((ifs.isEmpty && isYes t) || (decide (ifs.length = 1) && isTst t && okE S t (relS scope sc) (headE ifs)))) = true := h
        simp only [Bool.and_eq_true, decide_eq_true_eq] at h
        obtain ⟨⟨⟨⟨⟨h0, h1⟩, h2⟩, h3⟩, h4⟩, h5⟩ := h
        subst h0
        have hk : scope.kind = .function := (blkOk_by h1).kind
        obtain ⟨hI, hs⟩ := evI_ok S it X W sc B G tg' iter C h3
        exact ⟨(comp_both C h1 h2 hI (hs _) h5 (fun s H Cn cl fp B' G' => (ev_ok S e' (X.blk s H scope (compEnvC scope cl Cn X.env) fp) W0 (relS scope sc) B' G' elt (blk_okX C scope hk s H Cn cl fp) h4).1)
          (fun h6 h7 s H Cn cl fp B' G' => (ev_ok S t (X.blk s H scope (compEnvC scope cl Cn X.env) fp) W0 (relS scope sc) B' G' _ (blk_okX C scope hk s H Cn cl fp) h7).2 h6)).1, fun z => by cases z⟩
  | .xt t as, X, W, sc, B, G, e, C, h => by
    simp only [okE] at h
    rw [Bool.and_eq_true, Bool.and_eq_true] at h
    obtain ⟨⟨h1, h2⟩, h3⟩ := h
    split at h3
    · rename_i es he
      have key := (C.xt t h1).use he X O W sc B G e es as rfl C.toCtxB he (evs_parts S as X W sc B G es C h3)
      refine ⟨key, fun _ => test_of key ?_⟩
      cases e <;> first | exact fun _ => rfl | exact absurd h2 Bool.false_ne_true
    · cases h3
theorem evs_parts (S : Stat) : ∀ (as : IEs) (X : Cx) (W : WX) (sc : Scope) (B : Addr → Prop) (G : Ev) (es : List Expr), CtxOk S X O W sc → okA S as sc es = true → Parts S X O W sc B G es as
  | .nil, X, W, sc, B, G, es, C, h => by
    cases es with
    | nil => exact .nil
    | cons _ _ => simp [okA] at h
  | .cons x as, X, W, sc, B, G, es, C, h => by
    cases es with
    | nil => simp [okA] at h
    | cons e es =>
      simp only [okA, Bool.and_eq_true] at h
      exact .cons h.1 (ev_ok S x X W sc B G _ C h.1).1 (evs_parts S as X W sc B G es C h.2)
theorem evs_ok (S : Stat) : ∀ (as : IEs) (X : Cx) (W : WX) (sc : Scope) (B : Addr → Prop) (G : Ev) (es : List Expr), CtxOk S X O W sc → okA S as sc es = true → PA X es (tA (cfg X O) B W G (evs S.F as G))
  | .nil, X, W, sc, B, G, es, C, h => by
    cases es with
    | nil => exact okA_nil
    | cons _ _ => simp [okA] at h
  | .cons x as, X, W, sc, B, G, es, C, h => by
    cases es with
    | nil => simp [okA] at h
    | cons e es =>
      simp only [okA, Bool.and_eq_true] at h
      exact okA_cons (okE_plain h.1) (ev_ok S x X W sc B G _ C h.1).1 (evs_ok S as X W sc B G _ C h.2)
theorem evI_ok (S : Stat) : ∀ (it : II) (X : Cx) (W : WX) (sc : Scope) (B : Addr → Prop) (G : Ev) (tg e : Expr), CtxOk S X O W sc → okI S it sc tg e = true → PI X tg e (tI (cfg X O) B W G (evI S.F it G)) ∧ ∀ env x, foldedSetIterable e env x = pure x
  | .ex x, X, W, sc, B, G, tg, e, C, h => by
    have h : okE S x sc e = true := by simpa only [okI] using h
    exact ⟨oki_ex (ev_ok S x X W sc B G _ C h).1, fun env v => foldedIt (okE_plain h) (okE_notSet h) v⟩
  | .rng1 x, X, W, sc, B, G, tg, e, C, h => by
    unfold okI at h
    split at h
    · rename_i y a hc
      obtain ⟨p, pos, rfl⟩ := callN_of hc
      rw [Bool.and_eq_true] at h
      exact ⟨oki_rng1 C.toCtxB h.1 (okE_plain h.2) (ev_ok S x X W sc B G _ C h.2).1, fun _ _ => rfl⟩
    · cases h
  | .rng2 x z, X, W, sc, B, G, tg, e, C, h => by
    unfold okI at h
    split at h
    · rename_i y a b hc
      obtain ⟨p, pos, rfl⟩ := callN_of hc
      rw [Bool.and_eq_true, Bool.and_eq_true] at h
      exact ⟨oki_rng2 C.toCtxB h.1.1 (okE_plain h.1.2) (okE_plain h.2) (ev_ok S x X W sc B G _ C h.1.2).1 (ev_ok S z X W sc B G _ C h.2).1, fun _ _ => rfl⟩
    · cases h
  | .zip2 x z, X, W, sc, B, G, tg, e, C, h => by
    unfold okI at h
    split at h
    · rename_i y a b hc
      obtain ⟨p, pos, rfl⟩ := callN_of hc
      rw [Bool.and_eq_true, Bool.and_eq_true, Bool.and_eq_true] at h
      obtain ⟨es, k, p2, rfl⟩ := isTup_of h.1.1.1
      exact ⟨oki_zip C.toCtxB h.1.1.2 (okE_plain h.1.2) (okE_plain h.2) (ev_ok S x X W sc B G _ C h.1.2).1 (ev_ok S z X W sc B G _ C h.2).1, fun _ _ => rfl⟩
    · cases h
  | .rev x, X, W, sc, B, G, tg, e, C, h => by
    unfold okI at h
    split at h
    · rename_i y a hc
      obtain ⟨p, pos, rfl⟩ := callN_of hc
      rw [Bool.and_eq_true] at h
      exact ⟨oki_rev C.toCtxB h.1 (okE_plain h.2) (ev_ok S x X W sc B G _ C h.2).1, fun _ _ => rfl⟩
    · cases h
  | .xi w as, X, W, sc, B, G, tg, e, C, h => by
    unfold okI at h
    rw [Bool.and_eq_true] at h
    obtain ⟨h1, h2⟩ := h
    split at h2
    · rename_i es he
      exact (show XwOk S (cfg X O) w from C.xt (.wk w) h1) X O W sc B G tg e es as rfl C.toCtxB he (evs_parts S as X W sc B G es C h2)
    · cases h2
end
/-- name = e -/
theorem set_ok (S : Stat) (x : IE) {X : Cx} {W : WX} {sc : Scope} {B : Addr → Prop} {G : Ev} {e : Expr} (C : CtxOk S X O W sc) (h : okE S x sc e = true) {i : Nat} {y : Str} {py spos : Pos} (hi : X.N[i]? = some y) (hy0 : Loc X.env.scope y) (hf : X.fn y = true ∨ X.env.scope.names.lookup y = some .local) :
    PS X (.Assign [.Name y py] e spos) (tAsg (tE (cfg X O) B W G (ev S.F x G)) (gName i)) := by
  have he := (ev_ok S x X W sc B G e C h).1
  by_cases hc : ∃ tg it t e', x = .comp tg it t e'
  · obtain ⟨tg, it, t, e', rfl⟩ := hc
    cases e <;> first | (simp [okE] at h; done) | skip
    rename_i elt gens scope pos
    match gens, h, he with
    | [], h, he => simp [okE] at h
    | _ :: _ :: _, h, he => simp [okE] at h
    | [⟨tg', iter, ifs, k⟩], h, he =>
      have h : (decide (k = 0) && blkC S.N sc scope (ownNames S tg) && okT S (stF scope) tg tg' && okI S it sc tg' iter && okE S e' (relS scope sc) elt &&
        ((ifs.isEmpty && isYes t) || (decide (ifs.length = 1) && isTst t && okE S t (relS scope sc) (headE ifs)))) = true := h
      simp only [Bool.and_eq_true, decide_eq_true_eq] at h
      obtain ⟨⟨⟨⟨⟨h0, h1⟩, h2⟩, h3⟩, h4⟩, h5⟩ := h
      subst h0
      have hk : scope.kind = .function := (blkOk_by h1).kind
      have hkd : X.env.scope.kind = .function := by rw [C.sc]; exact C.kd
      have hb : X.env.blockKind = .function := by unfold Env.blockKind; rw [hkd]; rfl
      rcases hy0 with hy | hy
      rotate_left
      · have ky : X.env.kindOf y = some .cell := hy
        refine ps_set C.nd hi (.inr hy) he ?_ hf
        unfold swapsWith
        simp only [hb, ky, Expr.pos]
        rfl
      have ky : X.env.kindOf y = some .local := hy
      by_cases hsw : ((py.line == pos.line) && !(scope.names.any fun (n, k) => n == y && (k == .local || k == .cell))) = true
      · obtain ⟨hI, hs⟩ := evI_ok (O := O) S it X W sc B G tg' iter C h3
        refine (comp_both C h1 h2 hI (hs _) h5 (fun s H Cn cl fp B' G' => (ev_ok S e' (X.blk s H scope (compEnvC scope cl Cn X.env) fp) W0 (relS scope sc) B' G' elt (blk_okX C scope hk s H Cn cl fp) h4).1)
          (fun h6 h7 s H Cn cl fp B' G' => (ev_ok S t (X.blk s H scope (compEnvC scope cl Cn X.env) fp) W0 (relS scope sc) B' G' _ (blk_okX C scope hk s H Cn cl fp) h7).2 h6)).2 i y py spos hi hy ?_
        simp only [Bool.and_eq_true, Bool.not_eq_true'] at hsw
        exact sw_true hkd hy hsw.1 hsw.2
      · refine ps_set C.nd hi (.inl hy) he ?_ (.inr hy)
        have hsw : ((py.line == pos.line) && !(scope.names.any fun (n, k) => n == y && (k == .local || k == .cell))) = false := (Bool.not_eq_true _).mp hsw
        unfold swapsWith
        simp only [hb, ky, Expr.pos]
        show pure (_ && _ && (py.line == pos.line) && !(scope.names.any fun (n, k) => n == y && (k == .local || k == .cell))) = pure false
        rw [Bool.and_assoc, hsw, Bool.and_false]
  · refine ps_set C.nd hi hy0 he ?_ hf
    cases e <;> first | rfl | skip
    all_goals (cases x <;> first | (simp [okE, isXt] at h; done) | exact absurd ⟨_, _, _, _, rfl⟩ hc)
end
end RA
/-! RAX: errors that are caught and kept as values. -/
namespace RA
open PySem PySem.Spec PyProof.Rows L2
variable [Tabs]
/-- an error stands at a -/
def errAt (a : Addr) (cls : Value) (d : Option Addr) : Heap → Prop := fun h => ∃ oe vs, h.get? a = some oe ∧ Zc cls d oe ∧ oe.data = .fields vs
/-- own kinds beside errors -/
structure Op2 where
  op : (Addr → Prop) → Hp → Nat → List V → Addr → Prop
  op_mono : ∀ {B : Addr → Prop} {H H' : Hp} {n : Nat} {vs : List V} {a : Addr}, op B H n vs a → (∀ b o, ¬ B b → H b = some o → NoT o → H' b = some o) → (∀ b o u, H b = some (.frz o u) → H' b = some (.frz o u)) → op B H' n vs a
  op_grow : ∀ {B B' : Addr → Prop} {H : Hp} {n : Nat} {vs : List V} {a : Addr}, op B H n vs a → (∀ b, B' b → B b ∨ H b = none) → op B' H n vs a
  op_cel : ∀ {B : Addr → Prop} {H H' : Hp} {n : Nat} {vs : List V} {a : Addr}, n < 1000 → op B H n vs a → (∀ b o, H b = some o → NoT o → NoCel b o → H' b = some o) → op B H' n vs a
  /-- only these numbers are its own -/
  mine : Nat → Bool
  op_mine : ∀ {B : Addr → Prop} {H : Hp} {n : Nat} {vs : List V} {a : Addr}, op B H n vs a → mine n = true
def errOp (ecls : Nat → Addr) (enames : Nat → List Str) (B : Addr → Prop) (H : Hp) (n : Nat) (vs : List V) (a : Addr) : Prop :=
  ¬ B a ∧ ∃ d, H a = some (.ext (errAt a (.ref (ecls n)) d)) ∧ ((vs = [] ∧ d = none) ∨ ∃ dd, d = some dd ∧ ¬ B dd ∧ H dd = some (.xd ((enames n).zip vs)))
def O1 (ecls : Nat → Addr) (enames : Nat → List Str) (E : Op2) : OpT where
  op B H n vs a := if E.mine n = true then E.op B H n vs a else errOp ecls enames B H n vs a
  op_mono := fun {B H H' n vs a} h e ef => by
    split at h
    · rename_i q; rw [if_pos q]; exact E.op_mono h e ef
    · rename_i q
      rw [if_neg q]
      obtain ⟨hb, d, h1, h2⟩ := h
      exact ⟨hb, d, e _ _ hb h1 trivial, h2.imp id fun ⟨dd, e1, e2, e3⟩ => ⟨dd, e1, e2, e _ _ e2 e3 trivial⟩⟩
  op_grow := fun {B B' H n vs a} h g => by
    split at h
    · rename_i q; rw [if_pos q]; exact E.op_grow h g
    · rename_i q
      rw [if_neg q]
      obtain ⟨hb, d, h1, h2⟩ := h
      refine ⟨fun z => (g a z).elim hb fun z => (by rw [h1] at z; cases z), d, h1, h2.imp id fun ⟨dd, e1, e2, e3⟩ => ⟨dd, e1, fun z => (g dd z).elim e2 fun z => (by rw [e3] at z; cases z), e3⟩⟩
  op_cel := fun {B H H' n vs a} hn h e => by
    split at h
    · rename_i q; rw [if_pos q]; exact E.op_cel hn h e
    · rename_i q
      rw [if_neg q]
      obtain ⟨hb, d, h1, h2⟩ := h
      exact ⟨hb, d, e _ _ h1 trivial (fun oc v z => nomatch z), h2.imp id fun ⟨dd, e1, e2, e3⟩ => ⟨dd, e1, e2, e _ _ e3 trivial (fun oc v z => nomatch z)⟩⟩
  ecls := ecls
  enames := enames
section
variable {X : Cx} {pins : List (Addr × Obj)} {σ : L2.St} {H : Hp} {s : Shared}
theorem errAt_stay {a : Addr} {cls : Value} {d : Option Addr} {h1 h2 : Heap} (z : errAt a cls d h1) (k : ∀ o, h1.get? a = some o → h2.get? a = some o) : errAt a cls d h2 := by
  obtain ⟨oe, vs, e, r⟩ := z
  exact ⟨oe, vs, k _ e, r⟩
/-- what was pinned is told in the heap from now on -/
theorem adopt {a : Addr} {oe : Obj} {cls : Value} {d : Option Addr} {vs : Array Value} (I : Inv X ((a, oe) :: pins) σ H s) (hz : Zc cls d oe) (hd : oe.data = .fields vs) (hs0 : X.s_0.heap.get? a = none) (hn : ∀ p ∈ X.pn ++ pins, p.1 ≠ a) (hc : ∀ x c, X.env.cells.lookup x = some c → a ≠ c) :
    Inv X pins σ (upd H a (.ext (errAt a cls d))) s := by
  obtain ⟨p1, p2, p3, p4, p5⟩ := I.pin (a, oe) (List.mem_append_right _ List.mem_cons_self)
  have ne0 : ∀ b o, X.s_0.heap.get? b = some o → b ≠ a := fun b o e z => by rw [z, hs0] at e; cases e
  have old : ∀ b, b ≠ a → upd H a (.ext (errAt a cls d)) b = H b := fun b z => upd_ne z
  have here : errAt a cls d s.heap := ⟨oe, vs, p1, hz, hd⟩
  refine ⟨I.ok, I.os, I.bare, ⟨I.base.keep, I.base.slot, fun b o e n hx => ?_, I.base.there, fun b xs e => ?_, fun b o u e => ?_, fun b ps e => ?_⟩, I.loc, I.cell, ?_, fun x c e => ?_, fun p hp => ?_, fun b o e => ?_, I.len⟩
  · rw [old b (ne0 b o e)]; exact I.base.free b o e n hx
  · rw [old b fun z => by have := I.base.tups b xs e; rw [z, p2] at this; cases this]; exact I.base.tups b xs e
  · rw [old b fun z => by have := I.base.frzs b o u e; rw [z, p2] at this; cases this]; exact I.base.frzs b o u e
  · obtain ⟨m, q⟩ := I.base.tbls b ps e
    exact ⟨m, by rw [old b fun z => by rw [z, p2] at q; cases q]; exact q⟩
  · rw [old _ fun z => p3 z.symm]; exact I.free
  · rw [old _ fun z => hc x c e z.symm]; exact I.freeC x c e
  · obtain ⟨q1, q2, q3, q4, q5⟩ := I.pin p (by
      rcases List.mem_append.mp hp with z | z
      · exact List.mem_append_left _ z
      · exact List.mem_append_right _ (List.mem_cons_of_mem _ z))
    exact ⟨q1, by rw [old _ (hn p hp)]; exact q2, q3, q4, q5⟩
  · by_cases z : b = a
    · subst z
      rw [upd_same] at e
      cases e
      exact ⟨here, ⟨oe, p1⟩, fun h1 h2 z k => errAt_stay z k⟩
    · rw [old b z] at e
      exact (I.hok b o e).stay (fun _ _ _ q => q) (fun c q => by rw [old c fun y => by rw [y, p2] at q; cases q]; exact q) fun c xs q => by rw [old c fun y => by rw [y, p2] at q; cases q]; exact q
end
/-- the wish of 'except x as n: ..', n's error kept in the heap behind it -/
def wKp (K : PySem.W.Frag) (c : Value) (i : Nat) (ts : Addr → Value → Option Addr → TS) (Wout : WX) (D : Ends) : WX := fun cls d σ H => ∃ b, PySem.W.exmOne K cls c = some b ∧
  (b = true → ∀ a, H a = none → ts a cls d { nx := fun σ' H' => D.nx (σ'.set i none) (upd H' a (.ext (errAt a cls d))), rt := fun _ _ => False, bk := fun _ _ => False, ct := fun _ _ => False } (σ.set i (some (.ref a))) H) ∧ (b = false → Wout cls d σ H)
section
variable {X : Cx} {x n : Str} {c : Value} {i : Nat} {body suite : List Stmt} {st0 : Stmt} {np pos pos' : Pos} {tb : WX → TS} {ts : Addr → Value → Option Addr → TS} {Wout : WX}
/-- no frame has fields -/
theorem no_frame {g h : Heap} {l : List Env} {a : Addr} {o : Obj} {vs : Array Value} (ff : h.FunFrames g l) (e : h.get? a = some o) (dd : o.data = .fields vs) : a ∉ frs l := fun hm => by
  obtain ⟨_, u, e', hnf⟩ := ff.mem hm
  rw [e] at e'
  cases e'
  exact hnf _ dd
theorem try_keep (hx : X.ex = []) (hs : X.stack = X.env :: X.outer) (hf : X.env.frame = some X.env.locals) (hN : X.N.Nodup) (hi : X.N[i]? = some n) (hln : X.env.kindOf n = some .local) (hc : Names X x c) (tk : Takes X Wout)
    (hb : ∀ (W : WX) (pn : List (Addr × Obj)) (xe : Value → Shared → Prop), Takes (X.tr pn xe) W → PassesOwn (model X.prog X.w) X.A X.env xe → PSs (X.tr pn xe) body (tb W))
    (hsu : ∀ (a : Addr) (oe : Obj) (cls : Value) (d : Option Addr) (pn : List (Addr × Obj)), Zc cls d oe → (∃ vs, oe.data = .fields vs) → PSs (X.suite a ((a, oe) :: pn)) (st0 :: suite) (ts a cls d)) :
    PS X (.Try body [.ExceptHandler (some (.Name x np)) (some n) (st0 :: suite) pos'] [] [] pos) (fun D σ H => tb (wKp X.K c i ts Wout D) D σ H) := by
  refine ⟨fun pins s σ H D I h => wpAny_Try_except ?_⟩
  have ok := I.ok
  have ffr : X.A.frames = some (X.env :: X.outer) := ok.frames.trans (congrArg some hs)
  let hd : List ExceptHandler := [.ExceptHandler (some (.Name x np)) (some n) (st0 :: suite) pos']
  let K1 : Value → Shared → Prop := fun e s1 => wpAny (model X.prog X.w) X.A (noteFrame e X.env) (fun _ s2 => wpAny (model X.prog X.w) X.A (setFlight e none) (fun _ s3 => wpAny (model X.prog X.w) X.A (handleBy e X.env hd) (SP X pins D) X.xe s3) X.xe s2) X.xe s1
  have caught : ∀ u s', XE (X.tr (X.pn ++ pins) K1) (wKp X.K c i ts Wout D) u s' → K1 u s' := by
    rintro u s' ⟨a, G, sI, ps, σ1, H1, cls, d, rfl, J0, nb, up, sky, na, eo, ag, b, eb, yes, no⟩
    have J : Inv X pins σ1 H1 sI := J0.ofTry ok
    have sky : Sky G (X.env :: X.outer) a (Zc cls d) X.env.locals s'.heap := by rw [← hs]; exact sky
    refine Sky.land Zc.steady ffr hf sky fun g3 fly up3 => ?_
    have J3 : Inv X pins σ1 H1 { s' with heap := g3 } := J.landed nb fly.1 (up.trans up3) eo ag
    obtain ⟨oe, vs, ge, gz, gd⟩ := fly.there
    have nfr := no_frame fly.2.2.1 ge gd
    -- the error stood nowhere ahead of its raise
    have new : sI.heap.get? a = none := by
      cases q : sI.heap.get? a with
      | none => rfl
      | some o =>
        have := nb a o q (by rw [show frs (X.tr (X.pn ++ pins) K1).stack = frs (X.env :: X.outer) from congrArg frs hs]; exact nfr)
        rw [fly.2.1] at this; cases this
    have nL : a ≠ X.env.locals := fun z => nfr (List.mem_filterMap.mpr ⟨X.env, List.mem_cons_self, hf.trans (congrArg some z.symm)⟩)
    have nF : a ∉ X.fs := fun hm => by
      obtain ⟨e, he, q⟩ := List.mem_filterMap.mp hm
      exact nfr (List.mem_filterMap.mpr ⟨e, List.mem_cons_of_mem _ he, q⟩)
    have s0a : X.s_0.heap.get? a = none := by
      cases q : X.s_0.heap.get? a with
      | none => rfl
      | some o =>
        obtain ⟨_, hex⟩ := J.base.there a o q fun hm => by
          rw [hx] at hm; cases hm
        rw [new] at hex; cases hex
    have npn : ∀ p ∈ X.pn ++ pins, p.1 ≠ a := fun p hp z => by
      have := (J.pin p hp).1
      rw [z, new] at this; cases this
    have ncl : ∀ y cc, X.env.cells.lookup y = some cc → a ≠ cc := fun y cc e z => by
      obtain ⟨v, o, ho, _⟩ := J.cell y cc e
      rw [← z, new] at ho; cases ho
    have S3 := J3.suite ge gd na nL nF
    refine wpAny_handleBy_cons (codeAny_handlers_test ?_) (fun q => by cases q)
    have lt : PySem.W.Looks (model X.prog X.w) g3 (typeOf (.ref a)) cls := fun A Q E s k q => wpAny_typeOf_ref (k _ _ ge) (by rw [gz.1]; exact q)
    have lm := PySem.W.exm_one (M := model X.prog X.w) J3.kIn lt eb
    have tst : ∀ {Q E : Value → Shared → Prop}, Q c { s' with heap := g3 } → wpAny (model X.prog X.w) (X.A.mark (some (.ref a))) (eval (.Name x np) X.env) Q E { s' with heap := g3 } := fun {Q E} q => by
      obtain ⟨h1, h2, h3 | ⟨h3, h4, h5⟩⟩ := hc
      · exact ld_glob (X := X.suite a ((a, oe) :: (X.pn ++ pins))) S3 h1 h3 q h2
      · exact ld_blt (X := X.suite a ((a, oe) :: (X.pn ++ pins))) S3 h1 h3 h4 q h5 h2
    refine tst (lm.here ?_)
    cases b with
    | true =>
      refine codeAny_handlers_suite_as (HandSPX.lands_againZ fly fun g4 fly4 up4 => ?_)
      have J4 : Inv X pins σ1 H1 { s' with heap := g4 } := J.landed nb fly4.1 ((up.trans up3).trans up4) eo ag
      obtain ⟨o4, vs4, ge4, gz4, gd4⟩ := fly4.there
      refine store_ok (X := X.suite a ((a, o4) :: (X.pn ++ pins))) (v := .ref a) (J4.suite ge4 gd4 na nL nF) hN hi (.inl hln) rfl (fun s5 S5 => ?_) (.inr hln)
      refine wpAny_mono ((hsu a o4 cls d (X.pn ++ pins) gz4 ⟨_, gd4⟩).run [] s5 _ H1 _ S5 (yes rfl a na)) (fun f s6 r => ?_) fun _ _ z => z.elim
      cases f with
      | next =>
        obtain ⟨σ6, H6, S6, q6⟩ := r
        have U : Inv X ((a, o4) :: pins) σ6 H6 s6 := ⟨ok, S6.os, S6.bare, S6.base, S6.loc, S6.cell, S6.free, S6.freeC, fun p hp => S6.pin p (List.mem_append_left _ (by
          rcases List.mem_append.mp hp with z | z
          · exact List.mem_cons_of_mem _ (List.mem_append_left _ z)
          · rcases List.mem_cons.mp z with z | z
            · rw [z]; exact List.mem_cons_self
            · exact List.mem_cons_of_mem _ (List.mem_append_right _ z))), S6.hok, S6.len⟩
        exact gone_ok U hN hi hln fun s7 J7 => ⟨_, _, adopt J7 gz4 gd4 s0a npn ncl, q6⟩
      | brk => obtain ⟨_, _, _, q⟩ := r; exact q.elim
      | cont => obtain ⟨_, _, _, q⟩ := r; exact q.elim
      | ret u => obtain ⟨_, _, _, _, _, q⟩ := r; exact q.elim
    | false =>
      show wpAny _ X.A (handleBy (.ref a) X.env []) _ _ _
      refine wpAny_handleBy_nil ?_
      obtain ⟨_, _, _, oe, vs, T, oT, tt, he, _, hd, h1, _⟩ := id fly
      unfold PySem.passOn
      refine wpAny_bind (wpAny_field he hd h1 ?_)
      rw [if_neg (by simp : ¬ ((Value.ref T == Value.none) = true))]
      have fin : wpAny (model X.prog X.w) X.A (setFlight (.ref a) X.env.frame) (fun _ s4 => wpAny (model X.prog X.w) X.A (throw (.ref a) : Sem Flow) (SP X pins D) X.xe s4) X.xe { s' with heap := g3 } := by
        rw [hf]
        refine HandSPX.setFlight_upZ fly fun g4 held up4 => wpAny_throw (tk _ _ ⟨a, G, sI, pins, σ1, H1, cls, d, rfl, J, nb, (up.trans up3).trans up4, .inr (.inr (by rw [hs]; exact held)), na, eo, ag, no rfl⟩)
      first | exact wpAny_bind (wpAny_pure (wpAny_bind fin)) | exact wpAny_bind fin
  refine wpAny_mono ((hb _ (X.pn ++ pins) K1 caught PassesOwn.looking).run [] s σ H D (I.toTry _) h) (fun f s1 r => ?_) fun e s1 he => he
  cases f with
  | next =>
    obtain ⟨σ2, H2, J2, q⟩ := r
    exact wpAny_execs_nil ⟨σ2, H2, J2.ofTry ok, q⟩
  | brk => obtain ⟨σ2, H2, J2, q⟩ := r; exact ⟨σ2, H2, J2.ofTry ok, q⟩
  | cont => obtain ⟨σ2, H2, J2, q⟩ := r; exact ⟨σ2, H2, J2.ofTry ok, q⟩
  | ret u => obtain ⟨v, σ2, H2, J2, rv, q⟩ := r; exact ⟨v, σ2, H2, J2.ofTry ok, rv, q⟩
end
end RA
/-! RA12: statements: the check, and that what is checked does what the small language says. -/
namespace RA
open PySem PySem.Spec PyProof.Rows L2
variable [Tabs]
/-! ### the check -/
/-- a plain local name at slot i -/
def okN (S : Stat) (sc : Scope) (i : Nat) (x : Str) : Bool := decide (S.N[i]? = some x) && stF sc x
def ausOk : Bop → Operator → Bool
  | .add, .Add => true | .sub, .Sub => true | _, _ => false
def noComp : Expr → Bool
  | .ListComp _ _ _ _ => false | .SetComp _ _ _ _ => false | .DictComp _ _ _ _ _ => false | .GeneratorExp _ _ _ _ => false | .Tuple _ _ _ => false | _ => true
def rseN (x : Str) : Stmt → Bool
  | .Raise (some (.Call (.Name y _) [.Constant (.str _) _ _] [] _)) none _ => decide (x = y)
  | _ => false
theorem rseN_of {x : Str} {st : Stmt} (h : rseN x st = true) : ∃ m j p p2 p3 pos, st = .Raise (some (.Call (.Name x p) [.Constant (.str m) j p2] [] p3)) none pos := by
  unfold rseN at h
  split at h
  · have e := of_decide_eq_true h
    subst e
    exact ⟨_, _, _, _, _, _, rfl⟩
  · cases h
/-- the parts of a further statement -/
def ytDec : YT → Stat → Scope → Stmt → Option (List Expr)
  | .rsx _ x n, _, sc, .Raise (some (.Call (.Name y _) es [] _)) none _ => if (decide (x = y) && isGl sc x && plainN x && decide (es.length = n)) = true then some es else none
  | .clr i, S, sc, .Expr (.Call (.Attribute (.Name x _) y apos) [] [] cpos) _ => if (okV S sc i x && decide (y = "clear") && (apos.endLine == cpos.line)) = true then some [] else none
  | _, _, _, _ => none
/-- a constant, as an except clause stores it -/
def okCst (d : D) : Expr → Bool
  | .Constant c _ _ => okK d c
  | _ => false
/-- try: body except y as n: m = n' -/
def tryAs : Stmt → Option (List Stmt × Str × Str × Str × Str)
  | .Try body [.ExceptHandler (some (.Name y _)) (some n) [.Assign [.Name m _] (.Name n' _) _] _] [] [] _ => some (body, y, n, m, n')
  | _ => none
theorem tryAs_of {st : Stmt} {body : List Stmt} {y n m n' : Str} (h : tryAs st = some (body, y, n, m, n')) : ∃ p1 p2 p3 p4 p5 p6, st = .Try body [.ExceptHandler (some (.Name y p1)) (some n) [.Assign [.Name m p2] (.Name n' p3) p4] p5] [] [] p6 := by
  unfold tryAs at h
  split at h
  · cases h; exact ⟨_, _, _, _, _, _, rfl⟩
  · cases h
/-- try: body except y: m = v -/
def tryCst : Stmt → Option (List Stmt × Str × Str × Expr)
  | .Try body [.ExceptHandler (some (.Name y _)) none [.Assign [.Name m _] v _] _] [] [] _ => some (body, y, m, v)
  | _ => none
theorem tryCst_of {st : Stmt} {body : List Stmt} {y m : Str} {v : Expr} (h : tryCst st = some (body, y, m, v)) : ∃ p1 p2 p4 p5 p6, st = .Try body [.ExceptHandler (some (.Name y p1)) none [.Assign [.Name m p2] v p4] p5] [] [] p6 := by
  unfold tryCst at h
  split at h
  · cases h; exact ⟨_, _, _, _, _, rfl⟩
  · cases h
mutual
def okSt (S : Stat) (xs : List (Nat × Str)) (sc : Scope) : IS → Stmt → Bool
  | .set i e, .Assign [.Name x _] v _ => okN S sc i x && okE S e sc v
  | .own i e, .Assign [.Name x _] v _ => okN S sc i x && okE S e sc v
  | .mv i e, .Assign [.Name x _] v _ => okN S sc i x && okE S e sc v
  | .unp is e, .Assign [.Tuple es _ _] v _ => okTs S (stF sc) is es && decide (is.length = es.length) && noComp v && okE S e sc v
  | .aug i op e, .AugAssign (.Name x _) o v _ => okN S sc i x && ausOk op o && okE S e sc v
  | .ins i k e, .Expr (.Call (.Attribute (.Name x _) y apos) [kx, v] [] cpos) _ => okV S sc i x && decide (y = "insert") && (apos.endLine == cpos.line) && okE S k sc kx && okE S e sc v
  | .app i e, .Expr (.Call (.Attribute (.Name x _) y apos) [v] [] cpos) _ => okV S sc i x && decide (y = "append") && (apos.endLine == cpos.line) && okE S e sc v
  | .put i k e, .Assign [.Subscript (.Name x _) kx _] v _ => okV S sc i x && noComp v && okE S k sc kx && okE S e sc v
  | .do_ e, .Expr v _ => noComp v && okE S e sc v
  | .if_ t a b, .If tx as bs _ => isTst t && okE S t sc tx && okSts S xs sc a as && okSts S xs sc b bs
  | .whl t b, .While tx bs [] _ => isTst t && okE S t sc tx && okSts S xs sc b bs
  | .for_ tg it b, .For tgx itx bs [] _ => okT S (stF sc) tg tgx && okI S it sc tgx itx && okSts S xs sc b bs
  | .ret e, .Return (some v) _ => okE S e sc v
  | .retp i, .Return (some (.Name x _)) _ => okV S sc i x
  | .retd i, .Return (some (.Name x _)) _ => okV S sc i x
  | .retN, .Return none _ => true
  | .brk, .Break _ => true
  | .cnt, .Continue _ => true
  | .pass, .Pass _ => true
  | .pass, .Expr (.Constant (.str _) _ _) _ => true
  | .nev, _ => true
  | .rse c x, st => rseN x st && xs.contains (c, x) && isGl sc x && plainN x
  | .xs t as, st => S.yts.contains t && (match ytDec t S sc st with | some es => okA S as sc es | none => false)
  | .try_ b y ys ns (.as i j), st => (match tryAs st with
    | some (body, y', n, m, n') => okSts S xs sc b body && decide (y = y') && S.trs.contains (y, ys, ns) && isGl sc y && plainN y && decide (S.N[i]? = some n) && decide (sc.names.lookup n = some .local) && decide (n' = n) && plainN n && okN S sc j m
    | none => false)
  | .try_ b y ys ns (.cst j d), st => (match tryCst st with
    | some (body, y', m, v) => okSts S xs sc b body && decide (y = y') && S.trs.contains (y, ys, ns) && isGl sc y && plainN y && okCst d v && okN S sc j m
    | none => false)
  | _, _ => false
termination_by structural x => x
def okSts (S : Stat) (xs : List (Nat × Str)) (sc : Scope) : IS → List Stmt → Bool
  | .nil, [] => true
  | .seq (.frz _) r, sts => okSts S xs sc r sts
  | .seq (.fgt _) r, sts => okSts S xs sc r sts
  | .seq .nev _, _ => true
  | .seq s r, st :: sts => okSt S xs sc s st && okSts S xs sc r sts
  | _, _ => false
termination_by structural x => x
end
/-! ### readings -/
structure Step (G : Ev) (σ : L2.St) (H : Hp) (G' : Ev) (σ' : L2.St) (H' : Hp) : Prop where
  ext : Ext (Owned G σ) H H'
  own : ∀ a, Owned G' σ' a → Owned G σ a ∨ H a = none
section
variable {G G' G2 : Ev} {σ σ' σ2 : L2.St} {H H' H2 : Hp}
theorem Step.refl : Step G σ H G σ H := ⟨Ext.refl _ _, fun a h => .inl h⟩
theorem Step.of (s : Same H H') (o : ∀ a, Owned G' σ' a → Owned G σ a ∨ H a = none) : Step G σ H G' σ' H' := ⟨Same.ext s, o⟩
theorem Step.none (s : Step G σ H G' σ' H') {a : Addr} (n : H' a = none) : Owned G σ a ∨ H a = none := by
  by_cases q : Owned G σ a
  · exact .inl q
  · by_cases h : H a = Option.none
    · exact .inr h
    · exact absurd n (s.ext.there a q h)
theorem Step.trans (s : Step G σ H G' σ' H') (t : Step G' σ' H' G2 σ2 H2) : Step G σ H G2 σ2 H2 := by
  have no : ∀ a, ¬ Owned G σ a → H a ≠ Option.none → ¬ Owned G' σ' a := fun a q h z => (s.own a z).elim q h
  refine ⟨⟨fun a o q e n => t.ext.keep a o (no a q (by rw [e]; intro z; cases z)) (s.ext.keep a o q e n) n, fun a ps q h => let ⟨_, e⟩ := s.ext.tbl a ps q h; t.ext.tbl a _ (no a q (by rw [h]; intro z; cases z)) e, fun x => t.ext.tab (s.ext.tab x), fun a o u h => t.ext.frz a o u (s.ext.frz a o u h)⟩, fun a h => ?_⟩
  · rcases t.own a h with z | z
    · exact s.own a z
    · exact s.none z
end
def RetS (c : Cfg) (B O : Addr → Prop) (H H' : Hp) (o : Bool) (d : D) (v : V) : Prop :=
  if o = true then ∃ a, v = .ref a ∧ (O a ∨ H a = none) ∧ OwnAt c (fun b => B b ∨ b = a) H' d a else Rep c B H' d v
def ResS (c : Cfg) (B : Addr → Prop) (W : WX) (D : Ends) (G : Ev) (σ : L2.St) (H : Hp) (o : Out) : Prop := match o with
  | .no => False
  | .nx G' => ∀ σ' H', StOk c B G' σ' H' → Step G σ H G' σ' H' → D.nx σ' H'
  | .ct G' => ∀ σ' H', StOk c B G' σ' H' → Step G σ H G' σ' H' → D.ct σ' H'
  | .bk G' => ∀ σ' H', StOk c B G' σ' H' → Step G σ H G' σ' H' → D.bk σ' H'
  | .rt o d => ∀ v H', Ext (Owned G σ) H H' → RetS c B (Owned G σ) H H' o d v → D.rt v H'
  | .ex G' x fs => ∀ cls dd σ' H', StOk c B G' σ' H' → Step G σ H G' σ' H' → ExcAt c (Zof B G' σ') H' x fs cls dd → W cls dd σ' H'
section
variable {c : Cfg} {B : Addr → Prop} {W : WX} {D : Ends} {G G' : Ev} {σ σ' : L2.St} {H H' : Hp} {o : Out}
theorem RetS.early {H2 : Hp} {b : Bool} {d : RA.D} {v : V} (s : Step G σ H G' σ' H') (h : RetS c B (Owned G' σ') H' H2 b d v) : RetS c B (Owned G σ) H H2 b d v := by
  cases b with
  | true =>
    obtain ⟨a, e, z, r⟩ := h
    exact ⟨a, e, z.elim (s.own a) s.none, r⟩
  | false => exact h
theorem ResS.later (h : ResS c B W D G σ H o) (s : Step G σ H G' σ' H') : ResS c B W D G' σ' H' o := by
  cases o with
  | no => exact h
  | nx G2 => exact fun σ2 H2 Su st => h σ2 H2 Su (s.trans st)
  | ct G2 => exact fun σ2 H2 Su st => h σ2 H2 Su (s.trans st)
  | bk G2 => exact fun σ2 H2 Su st => h σ2 H2 Su (s.trans st)
  | rt b d => exact fun v H2 e r => h v H2 (s.trans (G2 := G') (σ2 := σ') ⟨e, fun a z => .inl z⟩).ext (r.early s)
  | ex G2 x fs => exact fun cls dd σ2 H2 Su st e => h cls dd σ2 H2 Su (s.trans st) e
end
def tS (c : Cfg) (B : Addr → Prop) (W : WX) (G : Ev) (o : Out) : TS := fun D σ H => StOk c B G σ H ∧ ResS c B W D G σ H o
/-- at whatever state -/
def tSx (c : Cfg) (B : Addr → Prop) (W : WX) (f : Ev → Out) : TS := fun D σ H => ∃ G, tS c B W G (f G) D σ H
theorem _root_.L2.PS.any {X : Cx} {e : Stmt} {α : Type} {t : α → TS} (h : ∀ g, PS X e (t g)) : PS X e (fun D σ H => ∃ g, t g D σ H) := ⟨fun pins s σ H D I ⟨g, q⟩ => (h g).run pins s σ H D I q⟩
theorem _root_.L2.PSs.any {X : Cx} {e : List Stmt} {α : Type} {t : α → TS} (h : ∀ g, PSs X e (t g)) : PSs X e (fun D σ H => ∃ g, t g D σ H) := ⟨fun pins s σ H D I ⟨g, q⟩ => (h g).run pins s σ H D I q⟩
theorem _root_.L2.PS.never {X : Cx} {e : Stmt} {t : TS} (k : ∀ σ H D, ¬ t D σ H) : PS X e t := ⟨fun pins s σ H D I q => (k σ H D q).elim⟩
theorem _root_.L2.PSs.never {X : Cx} {e : List Stmt} {t : TS} (k : ∀ σ H D, ¬ t D σ H) : PSs X e t := ⟨fun pins s σ H D I q => (k σ H D q).elim⟩
/-- an exception class of the text -/
structure ExOk (X : Cx) (O : OpT) (c : Nat) (x : Str) : Prop where
  ex : ∃ (bmB : List Value) (Bn newId initId : String), ExcBaseFacts Bn newId initId bmB ∧ PySem.W.excIn X.K (O.ecls c) bmB newId = true
  mg : X.mg x = some (.ref (O.ecls c))
  kp : PySem.W.keepIn X.K (.ref (O.ecls c)) = true
  rs : Raises X (.ref (O.ecls c))
/-- a further statement does what the small language says -/
def YtOk (S : Stat) (c : Cfg) (t : YT) : Prop := ∀ (X : Cx) (O : OpT) (W : WX) (sc : Scope) (B : Addr → Prop) (G : Ev) (st : Stmt) (es : List Expr) (as : IEs), cfg X O = c → CtxB S X O W sc → ytDec t S sc st = some es →
  Parts S X O W sc B G es as → PS X st (tS (cfg X O) B W G ((evs S.F as G).out G (ytD S.F t G)))
/-- an own error, kept as a value -/
def ErrOp (O : OpT) (k : Nat) : Prop := ∀ (B : Addr → Prop) (H : Hp) (a : Addr) (dd : Option Addr) (vs : List V), ¬ B a → H a = some (.ext (errAt a (.ref (O.ecls k)) dd)) → ((vs = [] ∧ dd = none) ∨ ∃ d, dd = some d ∧ ¬ B d ∧ H d = some (.xd ((O.enames k).zip vs))) → O.op B H k vs a
/-- the class y of an except clause: the errors ys are its, ns are not -/
structure TrOk (K : PySem.W.Frag) (mg : Str → Option Value) (O : OpT) (y : Str) (ys ns : List Nat) : Prop where
  cl : ∃ c, mg y = some c ∧ (∀ k, ys.contains k = true → PySem.W.exmOne K (.ref (O.ecls k)) c = some true) ∧ ∀ k, ns.contains k = true → PySem.W.exmOne K (.ref (O.ecls k)) c = some false
  op : ∀ k, ys.contains k = true → ErrOp O k
structure CtxS (S : Stat) (X : Cx) (O : OpT) (W : WX) (sc : Scope) (xs : List (Nat × Str)) : Prop extends CtxOk S X O W sc where
  po : PassesOwn (model X.prog X.w) X.A X.env X.xe
  fn : ∀ x, X.env.scope.names.lookup x = some .cell → X.fn x = true
  xs : ∀ c x, xs.contains (c, x) = true → ExOk X O c x
  yt : ∀ t, S.yts.contains t = true → YtOk S (cfg X O) t
  tr : ∀ y ys ns, S.trs.contains (y, ys, ns) = true → TrOk X.K X.mg O y ys ns
  stk : X.stack = X.env :: X.outer
  fra : X.env.frame = some X.env.locals
  exn : X.ex = []
/-! ### one by one -/
section
variable {S : Stat} {X : Cx} {O : OpT} {W : WX} {sc : Scope} {xs : List (Nat × Str)} {B : Addr → Prop} {n : Nat}
/-- an expression, then an end -/
theorem st_read {c : Cfg} {ra : Rs (Fl × RA.D)} {k : Fl × RA.D → Out} {D : Ends} {G : Ev} {σ : L2.St} {H : Hp} {T : V → Hp → Prop} (h : tS c B W G (ra.out G k) D σ H)
    (q : ∀ a v H1, Same H H1 → StOk c B G σ H → StOk c B G σ H1 → RepF c (Zof B G σ) H H1 a v → ResS c B W D G σ H (k a) → T v H1) : tE c B W G ra σ H T := by
  obtain ⟨Su, R⟩ := h
  refine ⟨Su, ?_⟩
  cases ra with
  | no => exact R
  | ok a => exact fun v H1 s1 rv => q a v H1 s1 Su (Su.same s1) rv R
  | ex x fs => exact fun cls dd H' s e => R cls dd σ H' (Su.same s) (Step.of s fun a z => .inl z) e
theorem CtxS.locs (C : CtxS S X O W sc xs) : ∀ x, stF sc x = true → Loc X.env.scope x ∧ (X.fn x = true ∨ X.env.scope.names.lookup x = some .local) := fun x hx => by
  unfold stF at hx
  rw [Bool.or_eq_true] at hx
  rw [C.sc]
  exact ⟨hx.imp of_decide_eq_true of_decide_eq_true, hx.elim (fun h => .inr (of_decide_eq_true h)) fun h => .inl (C.fn x (by rw [C.sc]; exact of_decide_eq_true h))⟩
theorem CtxS.fnL (C : CtxS S X O W sc xs) {x : Str} (h : Loc X.env.scope x) : X.fn x = true ∨ X.env.scope.names.lookup x = some .local := h.elim .inr fun k => .inl (C.fn x k)
theorem okN_of (C : CtxS S X O W sc xs) {i : Nat} {x : Str} (h : okN S sc i x = true) : X.N[i]? = some x ∧ Loc X.env.scope x := by
  unfold okN at h
  rw [Bool.and_eq_true, decide_eq_true_eq] at h
  exact ⟨by rw [C.N]; exact h.1, (C.locs x h.2).1⟩
theorem st_set (C : CtxS S X O W sc xs) {i : Nat} {e : IE} {x : Str} {v : Expr} {p pos : Pos} (h : (okN S sc i x && okE S e sc v) = true) (G : Ev) : PS X (.Assign [.Name x p] v pos) (tS (cfg X O) B W G (exec S.F n (.set i e) G)) := by
  rw [Bool.and_eq_true] at h
  obtain ⟨h1, h2⟩ := okN_of C h.1
  refine (set_ok (O := O) (B := B) (G := G) S e C.toCtxOk h.2 h1 h2 (C.fnL h2)).weak fun D σ H hq => ?_
  refine st_read (T := fun x H1 => gName i x σ H1 D.nx) hq fun a v H1 s1 Su Su1 rv R => ?_
  split at R
  · exact False.elim R
  · rename_i hf
    exact R _ _ (Su1.set (rv.keep hf Su.ztr)) (Step.of s1 fun a z => .inl (own_set z))
theorem st_own (C : CtxS S X O W sc xs) {i : Nat} {e : IE} {x : Str} {v : Expr} {p pos : Pos} (h : (okN S sc i x && okE S e sc v) = true) (G : Ev) : PS X (.Assign [.Name x p] v pos) (tS (cfg X O) B W G (exec S.F n (.own i e) G)) := by
  rw [Bool.and_eq_true] at h
  obtain ⟨h1, h2⟩ := okN_of C h.1
  refine (set_ok (O := O) (B := B) (G := G) S e C.toCtxOk h.2 h1 h2 (C.fnL h2)).weak fun D σ H hq => ?_
  refine st_read (T := fun x H1 => gName i x σ H1 D.nx) hq fun a v H1 s1 Su Su1 rv R => ?_
  split at R
  · rename_i hf
    obtain ⟨f, d⟩ := a
    cases hf
    obtain ⟨a, rfl, na, o⟩ := rv
    exact R _ _ (Su.own' s1 na o) (Step.of s1 fun b z => (own_own z).imp id fun e => by rw [e]; exact na)
  · exact False.elim R
theorem st_mv (C : CtxS S X O W sc xs) {i : Nat} {e : IE} {x : Str} {v : Expr} {p pos : Pos} (h : (okN S sc i x && okE S e sc v) = true) (G : Ev) : PS X (.Assign [.Name x p] v pos) (tS (cfg X O) B W G (exec S.F n (.mv i e) G)) := by
  rw [Bool.and_eq_true] at h
  obtain ⟨h1, h2⟩ := okN_of C h.1
  refine (set_ok (O := O) (B := B) (G := G) S e C.toCtxOk h.2 h1 h2 (C.fnL h2)).weak fun D σ H hq => ?_
  refine st_read (T := fun x H1 => gName i x σ H1 D.nx) hq fun a v H1 s1 Su Su1 rv R => ?_
  split at R
  · exact False.elim R
  · rename_i hf
    obtain ⟨f, d⟩ := a
    cases f with
    | tmp => exact absurd rfl hf
    | val => exact R _ _ (Su1.set (RepF.keep (x := (Fl.val, d)) rv hf Su.ztr)) (Step.of s1 fun a z => .inl (own_set z))
    | own =>
      obtain ⟨a, rfl, na, o⟩ := rv
      exact R _ _ (Su.own' s1 na o) (Step.of s1 fun b z => (own_own z).imp id fun e => by rw [e]; exact na)
theorem noComp_sw {v : Expr} {env : Env} (h : noComp v = true) : (∀ t l, swapsWith v t l env = pure false) ∧ ∀ ts l, swapsWithSole ts v l env = pure false ∧ swappedStores ts v env = pure none := by
  have h1 : ∀ t l, swapsWith v t l env = pure false := by cases v <;> first | (intro t l; rfl) | cases h
  refine ⟨h1, fun ts l => ⟨?_, ?_⟩⟩
  · unfold swapsWithSole
    split
    · exact h1 _ _
    · rfl
  · unfold swappedStores
    cases v <;> first | (cases h; done) | skip
    all_goals
      cases ts with
      | nil => rfl
      | cons t ts =>
        cases ts with
        | nil => cases t <;> rfl
        | cons _ _ => cases t <;> rfl
theorem st_unp (C : CtxS S X O W sc xs) {is : List Nat} {e : IE} {es : List Expr} {v : Expr} {j : Nat} {p pos : Pos} (h : (okTs S (stF sc) is es && decide (is.length = es.length) && noComp v && okE S e sc v) = true) (G : Ev) : PS X (.Assign [.Tuple es j p] v pos) (tS (cfg X O) B W G (exec S.F n (.unp is e) G)) := by
  simp only [Bool.and_eq_true, decide_eq_true_eq] at h
  obtain ⟨⟨⟨h1, h2⟩, h3⟩, h4⟩ := h
  obtain ⟨k1, k2⟩ := noComp_sw (env := X.env) h3
  have hg : PG X (.Tuple es j p) (gTg X.K (.tup is)) := pg_tg (S := S) (sl := stF sc) C.N C.nd C.locs C.calm (by simp only [okT, h1, Bool.true_and, decide_eq_true_eq]; exact h2)
  refine (ps_asg (ev_ok (O := O) S e X W sc B G v C.toCtxOk h4).1 hg (k2 _ _).1 (k2 [.Tuple es j p] 0).2 rfl).weak fun D σ H hq => ?_
  refine st_read (T := fun x H1 => gTg X.K (.tup is) x σ H1 D.nx) hq fun a v H1 s1 Su Su1 rv R => ?_
  split at R
  · exact False.elim R
  · rename_i hf
    split at R
    · rename_i G' hb
      exact gTg_ok (c := cfg X O) hb (rv.keep hf Su.ztr) Su1 fun σ' Su' lo at' => R σ' H1 Su' (Step.of s1 fun a z => .inl (lo a z))
    · exact False.elim R
theorem st_aug (C : CtxS S X O W sc xs) {i : Nat} {op : Bop} {o : Operator} {e : IE} {x : Str} {v : Expr} {p pos : Pos} (h : (okN S sc i x && ausOk op o && okE S e sc v) = true) (G : Ev) : PS X (.AugAssign (.Name x p) o v pos) (tS (cfg X O) B W G (exec S.F n (.aug i op e) G)) := by
  rw [Bool.and_eq_true, Bool.and_eq_true] at h
  obtain ⟨⟨h0, hop⟩, he⟩ := h
  obtain ⟨h1, h2⟩ := okN_of C h0
  have hE := (ev_ok (O := O) S e X W sc B G v C.toCtxOk he).1
  have key : ∀ {ti : TIp} (hi : PIp X o ti) (_ : ∀ x y H Q, ti (.int x) (.int y) H Q ↔ True → True), True := fun _ _ => trivial
  have fin : ∀ (f : Int → Int → Int) (hi : PIp X o (ipI f)), (∀ x y : Int, (match op with | .add => some (x + y) | .sub => some (x - y) | _ => none) = some (f x y)) → PS X (.AugAssign (.Name x p) o v pos) (tS (cfg X O) B W G (exec S.F n (.aug i op e) G)) := fun f hi hf => by
    refine (ps_aug C.nd h1 h2 hE hi (C.fnL h2)).weak fun D σ H hq => ?_
    obtain ⟨Su, R⟩ := hq
    simp only [exec] at R
    split at R
    · rename_i x ex
      obtain ⟨w, g1, g2⟩ := Su.val i _ ex
      cases g2
      refine ⟨_, g1, ?_⟩
      refine st_read (B := B) (c := cfg X O) (D := D) (W := W) (T := fun y H1 => ipI f (.int x) y H1 fun z H2 => D.nx (σ.set i (some z)) H2) ⟨Su, R⟩ fun a v H1 s1 Su Su1 rv R => ?_
      obtain ⟨fl, d⟩ := a
      cases d with
      | int y =>
        refine ⟨x, y, rfl, rv.int, ?_⟩
        have hfx := hf x y
        cases op <;> simp only [Option.some.injEq, reduceCtorEq] at hfx
        all_goals
          rw [← hfx]
          exact R _ _ (Su1.set (.int _)) (Step.of s1 fun a z => .inl (own_set z))
      | _ => exact False.elim R
    · exact False.elim R
  cases op <;> cases o <;> first | (cases hop; done) | skip
  · exact fin (fun i j => i + j) ip_add fun x y => rfl
  · exact fin (fun i j => i - j) ip_sub fun x y => rfl
theorem okV_pv (C : CtxOk S X O W sc) {i : Nat} {x : Str} {p : Pos} (h : okV S sc i x = true) : PE X (.Name x p) (tVar i) := by
  unfold okV at h
  simp only [Bool.and_eq_true, decide_eq_true_eq] at h
  obtain ⟨⟨h1, h2⟩, h3⟩ := h
  obtain ⟨p1, p2, _⟩ := plainN_of h3
  exact pe_var (i := i) (by rw [C.N]; exact h1) (C.vis h2) p1 p2
theorem st_app (C : CtxOk S X O W sc) {i : Nat} {e : IE} {x y : Str} {v : Expr} {p apos cpos pos : Pos} (h : (okV S sc i x && decide (y = "append") && (apos.endLine == cpos.line) && okE S e sc v) = true) (G : Ev) :
    PS X (.Expr (.Call (.Attribute (.Name x p) y apos) [v] [] cpos) pos) (tS (cfg X O) B W G (exec S.F n (.app i e) G)) := by
  simp only [Bool.and_eq_true, decide_eq_true_eq] at h
  obtain ⟨⟨⟨h1, rfl⟩, h3⟩, h4⟩ := h
  have hE := (ev_ok (O := O) S e X W sc B G v C h4).1
  have hs : starEach [v] X.env = (false, eval v X.env) :: starEach [] X.env := star_cons (okE_plain h4)
  refine (ps_expr (pe_bm PySem.F.plainAttrs_list PySem.F.slot_list_append PySem.F.type_list_append mt_append (okV_pv C h1) (pa_cons hE pa_nil hs) rfl (by rw [hs]; rfl) h3 hs rfl) rfl).weak fun D σ H hq => ?_
  obtain ⟨Su, R⟩ := hq
  simp only [exec] at R
  split at R
  · rename_i ds ex
    obtain ⟨a, g1, g2⟩ := Su.own i _ ex
    obtain ⟨vs, g3, g4⟩ : ∃ vs, H a = some (.lst vs) ∧ Reps (cfg X O) (Zof B G σ) H ds vs := by cases g2 with | lst h r => exact ⟨_, h, r⟩
    refine ⟨_, g1, .inl ⟨rfl, vs, .inl (.inl g3)⟩, ?_⟩
    refine st_read (c := cfg X O) (B := B) (W := W) (D := D) (T := fun y H1 => rAppend (.ref a) [y] H1 fun _ H2 => D.nx σ H2) ⟨Su, R⟩ fun r v H1 s1 Su Su1 rv R => ?_
    split at R
    · rename_i hf
      have g5 := s1.keep _ _ g3 trivial
      refine ⟨a, vs, v, rfl, rfl, g5, by rw [← g4.length]; exact hf.2, ?_⟩
      have oa : Owned G σ a := ⟨i, _, ex, g1⟩
      have hx : ∀ b, b ≠ a → H1 b ≠ none → (upd H1 a (.lst (vs ++ [v]))) b = H1 b := fun b nb _ => upd_ne nb
      have ez : Ext (Zof B G σ) H1 (upd H1 a (.lst (vs ++ [v]))) := Ext.upd g5 trivial (.inr oa)
      obtain ⟨k1, k2⟩ := Su1.wr (d' := .lst (ds ++ [r.2])) ex g1 hx (.lst upd_same (Reps.app ((g4.same s1).mono ez) (.cons ((rv.keep hf.1 Su.ztr).mono ez) .nil)))
      exact R _ _ k1 ⟨(Same.ext s1).trans (Ext.upd g5 trivial oa), fun b z => .inl (k2 b z)⟩
    · exact False.elim R
  · exact False.elim R
theorem st_ins (C : CtxOk S X O W sc) {i : Nat} {k e : IE} {x y : Str} {kx v : Expr} {p apos cpos pos : Pos} (h : (okV S sc i x && decide (y = "insert") && (apos.endLine == cpos.line) && okE S k sc kx && okE S e sc v) = true) (G : Ev) :
    PS X (.Expr (.Call (.Attribute (.Name x p) y apos) [kx, v] [] cpos) pos) (tS (cfg X O) B W G (exec S.F n (.ins i k e) G)) := by
  simp only [Bool.and_eq_true, decide_eq_true_eq] at h
  obtain ⟨⟨⟨⟨h1, rfl⟩, h3⟩, h5⟩, h4⟩ := h
  have hE := (ev_ok (O := O) S e X W sc B G v C h4).1
  have hK := (ev_ok (O := O) S k X W sc B G kx C h5).1
  have hs2 : starEach [v] X.env = [(false, eval v X.env)] := star_cons (okE_plain h4)
  have hs : starEach [kx, v] X.env = (false, eval kx X.env) :: starEach [v] X.env := star_cons (okE_plain h5)
  refine (ps_expr (pe_bm PySem.F.plainAttrs_list PySem.F.slot_list_insert PySem.F.type_list_insert mt_insert (okV_pv C h1) (pa_cons hK (pa_cons hE pa_nil hs2) hs) rfl (by rw [hs, hs2]; rfl) h3 hs (by rw [hs2]; rfl)) rfl).weak fun D σ H hq => ?_
  obtain ⟨Su, R⟩ := hq
  simp only [exec] at R
  split at R
  · rename_i ds ex
    obtain ⟨a, g1, g2⟩ := Su.own i _ ex
    obtain ⟨vs, g3, g4⟩ : ∃ vs, H a = some (.lst vs) ∧ Reps (cfg X O) (Zof B G σ) H ds vs := by cases g2 with | lst h r => exact ⟨_, h, r⟩
    refine ⟨_, g1, .inl ⟨rfl, vs, .inl (.inl g3)⟩, ?_⟩
    refine st_read (c := cfg X O) (B := B) (W := W) (D := D) (T := fun q H1 => tE (cfg X O) B W G (ev S.F e G) σ H1 fun y H2 => ∃ (l : Addr) (xs : List V) (i : Int) (y' : V), V.ref a = .ref l ∧ [q, y] = [.int i, y'] ∧ H2 l = some (.lst xs) ∧ xs.length < sizeLine ∧ 0 ≤ i ∧ i < 2 ^ 63 ∧ D.nx σ (upd H2 l (.lst (xs.take i.toNat ++ [y'] ++ xs.drop i.toNat)))) ⟨Su, R⟩ fun q w H1 s1 _ Su1 rq R => ?_
    refine st_read (c := cfg X O) (B := B) (W := W) (D := D) (T := fun y H2 => ∃ (l : Addr) (xs : List V) (i : Int) (y' : V), V.ref a = .ref l ∧ [w, y] = [.int i, y'] ∧ H2 l = some (.lst xs) ∧ xs.length < sizeLine ∧ 0 ≤ i ∧ i < 2 ^ 63 ∧ D.nx σ (upd H2 l (.lst (xs.take i.toNat ++ [y'] ++ xs.drop i.toNat)))) ⟨Su1, R.later (Step.of s1 fun a z => .inl z)⟩ fun r v H2 s2 _ Su2 rv R => ?_
    obtain ⟨fq, dq⟩ := q
    cases dq with
    | int j =>
      dsimp only at R
      split at R
      · rename_i hf
        have g5 := s2.keep _ _ (s1.keep _ _ g3 trivial) trivial
        refine ⟨a, vs, j, v, rfl, by rw [rq.int], g5, by rw [← g4.length]; exact hf.2.2.2, hf.2.1, hf.2.2.1, ?_⟩
        have oa : Owned G σ a := ⟨i, _, ex, g1⟩
        have hx : ∀ b, b ≠ a → H2 b ≠ none → (upd H2 a (.lst (vs.take j.toNat ++ [v] ++ vs.drop j.toNat))) b = H2 b := fun b nb _ => upd_ne nb
        have ez : Ext (Zof B G σ) H2 (upd H2 a (.lst (vs.take j.toNat ++ [v] ++ vs.drop j.toNat))) := Ext.upd g5 trivial (.inr oa)
        have g6 := ((g4.same s1).same s2).mono ez
        obtain ⟨k1, k2⟩ := Su2.wr (d' := .lst (ds.take j.toNat ++ [r.2] ++ ds.drop j.toNat)) ex g1 hx (.lst upd_same (Reps.app (Reps.app (g6.take _) (.cons ((rv.keep hf.1 Su1.ztr).mono ez) .nil)) (g6.drop _)))
        exact R _ _ k1 ⟨(Same.ext s2).trans (Ext.upd g5 trivial oa), fun b z => .inl (k2 b z)⟩
      · exact False.elim R
    | _ => exact False.elim R
  · exact False.elim R
theorem st_do (C : CtxOk S X O W sc) {e : IE} {v : Expr} {pos : Pos} (h : (noComp v && okE S e sc v) = true) (G : Ev) : PS X (.Expr v pos) (tS (cfg X O) B W G (exec S.F n (.do_ e) G)) := by
  rw [Bool.and_eq_true] at h
  obtain ⟨k1, k2⟩ := noComp_sw (env := X.env) h.1
  refine (ps_expr (ev_ok (O := O) S e X W sc B G v C h.2).1 (k1 _ _)).weak fun D σ H hq => ?_
  exact st_read (T := fun x H1 => D.nx σ H1) hq fun a v H1 s1 Su Su1 rv R => R _ _ Su1 (Step.of s1 fun a z => .inl z)
theorem RepF.ret {c : Cfg} {G : Ev} {σ : L2.St} {H H1 : Hp} {a : Fl × RA.D} {v : V} (s : Same H H1) (Su : StOk c B G σ H) (rv : RepF c (Zof B G σ) H H1 a v) (hf : a.1 ≠ .tmp) : RetS c B (Owned G σ) H H1 (decide (a.1 = .own)) a.2 v := by
  obtain ⟨f, d⟩ := a
  cases f with
  | val => exact Rep.less (fun b z => .inl z) rv
  | tmp => exact absurd rfl hf
  | own =>
    obtain ⟨a, rfl, na, r⟩ := rv
    exact ⟨a, rfl, .inr na, r.grow fun b z => .inl (z.elim (fun q => .inl (.inl q)) .inr)⟩
theorem st_ret (C : CtxOk S X O W sc) {e : IE} {v : Expr} {pos : Pos} (h : okE S e sc v = true) (G : Ev) : PS X (.Return (some v) pos) (tS (cfg X O) B W G (exec S.F n (.ret e) G)) := by
  refine (ps_ret (ev_ok (O := O) S e X W sc B G v C h).1).weak fun D σ H hq => ?_
  refine st_read (T := D.rt) hq fun a v H1 s1 Su Su1 rv R => ?_
  split at R
  · exact False.elim R
  · rename_i hf
    exact R v H1 (Same.ext s1) (rv.ret s1 Su hf)
theorem st_retp (C : CtxOk S X O W sc) {i : Nat} {x : Str} {p pos : Pos} (h : okV S sc i x = true) (G : Ev) : PS X (.Return (some (.Name x p)) pos) (tS (cfg X O) B W G (exec S.F n (.retp i) G)) := by
  refine (ps_ret (okV_pv C h)).weak fun D σ H hq => ?_
  obtain ⟨Su, R⟩ := hq
  simp only [exec] at R
  split at R
  · rename_i d ex
    obtain ⟨a, g1, g2⟩ := Su.own i _ ex
    have oa : Owned G σ a := ⟨i, _, ex, g1⟩
    exact ⟨_, g1, R _ _ (Ext.refl _ _) ⟨a, rfl, .inl oa, g2.grow fun b z => .inl (z.elim .inl fun e => .inr (by rw [e]; exact oa))⟩⟩
  · exact False.elim R
theorem st_retd (C : CtxOk S X O W sc) {i : Nat} {x : Str} {p pos : Pos} (h : okV S sc i x = true) (G : Ev) : PS X (.Return (some (.Name x p)) pos) (tS (cfg X O) B W G (exec S.F n (.retd i) G)) := by
  refine (ps_ret (okV_pv C h)).weak fun D σ H hq => ?_
  obtain ⟨Su, R⟩ := hq
  simp only [exec] at R
  split at R
  · rename_i b d ex
    cases b with
    | true =>
      obtain ⟨a, g1, g2⟩ := Su.own i _ ex
      have oa : Owned G σ a := ⟨i, _, ex, g1⟩
      exact ⟨_, g1, R _ _ (Ext.refl _ _) ⟨a, rfl, .inl oa, g2.grow fun b z => .inl (z.elim .inl fun e => .inr (by rw [e]; exact oa))⟩⟩
    | false =>
      obtain ⟨v, g1, g2⟩ := Su.val i _ ex
      exact ⟨_, g1, R v H (Ext.refl _ _) (Rep.less (fun b z => .inl z) g2)⟩
  · exact False.elim R
theorem st_put (C : CtxOk S X O W sc) {i : Nat} {k e : IE} {x : Str} {kx v : Expr} {p p2 pos : Pos} (h : (okV S sc i x && noComp v && okE S k sc kx && okE S e sc v) = true) (G : Ev) :
    PS X (.Assign [.Subscript (.Name x p) kx p2] v pos) (tS (cfg X O) B W G (exec S.F n (.put i k e) G)) := by
  simp only [Bool.and_eq_true] at h
  obtain ⟨⟨⟨h1, h2⟩, h3⟩, h4⟩ := h
  obtain ⟨k1, k2⟩ := noComp_sw (env := X.env) h2
  have hE := (ev_ok (O := O) S e X W sc B G v C h4).1
  have hK := (ev_ok (O := O) S k X W sc B G kx C h3).1
  have hpk := okE_plain h3
  have ha : ∀ v, assign (.Subscript (.Name x p) kx p2) X.env v = (do
      let ov ← holding [v] (eval (.Name x p) X.env)
      let iv ← holding [v, ov] (eval kx X.env)
      standAt p2
      holding [v, ov, iv] (setItem ov iv v)
      release [v, ov, iv] []) := by
    intro v
    cases kx <;> first | rfl | exact hpk.elim
  have sole : swapsWithSole [.Subscript (.Name x p) kx p2] v pos.line X.env = pure false := (k2 _ _).1
  have a1 : (assignEach [.Subscript (.Name x p) kx p2] X.env).map (·.2) = [assign (.Subscript (.Name x p) kx p2) X.env] := by rfl
  refine (ps_asg hE (pg_sub (okV_pv C h1) hK (PSet.or set_list (PSet.or (set_dict (O := O)) (set_dictT (O := O) C.room.units))) ha) sole (k2 [.Subscript (.Name x p) kx p2] 0).2 a1).weak fun D σ H hq => ?_
  obtain ⟨Su, R⟩ := hq
  by_cases hds : ∃ ds, G[i]? = some (some (true, .lst ds))
  · obtain ⟨ds, ex⟩ := hds
    obtain ⟨a, g1, g2⟩ := Su.own i _ ex
    obtain ⟨vs, g3, g4⟩ : ∃ vs, H a = some (.lst vs) ∧ Reps (cfg X O) (Zof B G σ) H ds vs := by cases g2 with | lst h r => exact ⟨_, h, r⟩
    simp only [exec, ex] at R
    refine st_read (c := cfg X O) (B := B) (W := W) (D := D) (T := fun y H1 => gSub (tVar i) (tE (cfg X O) B W G (ev S.F k G)) (fun o i v H Q => rSetL o i v H Q ∨ rSetD (cfg X O) o i v H Q ∨ rSetT (cfg X O) o i v H Q) y σ H1 D.nx) ⟨Su, R⟩ fun r v H1 s1 Su Su1 rv R => ?_
    refine ⟨_, g1, ?_⟩
    refine st_read (c := cfg X O) (B := B) (W := W) (D := D) (T := fun y H2 => rSetL (.ref a) y v H2 (fun H3 => D.nx σ H3) ∨ rSetD (cfg X O) (.ref a) y v H2 (fun H3 => D.nx σ H3) ∨ rSetT (cfg X O) (.ref a) y v H2 fun H3 => D.nx σ H3) ⟨Su1, R.later (Step.of s1 fun a z => .inl z)⟩ fun q w H2 s2 _ Su2 rw' R => ?_
    obtain ⟨fq, dq⟩ := q
    cases dq with
    | int j =>
      dsimp only at R
      split at R
      · rename_i m hm
        split at R
        · exact False.elim R
        · rename_i hf
          have g5 := s2.keep _ _ (s1.keep _ _ g3 trivial) trivial
          refine .inl ⟨a, vs, j, m, rfl, rw'.int, g5, by rw [← g4.length]; exact hm, ?_⟩
          have oa : Owned G σ a := ⟨i, _, ex, g1⟩
          have hx : ∀ b, b ≠ a → H2 b ≠ none → (upd H2 a (.lst (vs.set m v))) b = H2 b := fun b nb _ => upd_ne nb
          have ez : Ext (Zof B G σ) H2 (upd H2 a (.lst (vs.set m v))) := Ext.upd g5 trivial (.inr oa)
          obtain ⟨k1, k2⟩ := Su2.wr (d' := .lst (ds.set m r.2)) ex g1 hx (.lst upd_same (Reps.set (((rv.mono s2).keep hf Su.ztr).mono ez) m (((g4.same s1).same s2).mono ez)))
          exact R _ _ k1 ⟨(Same.ext s2).trans (Ext.upd g5 trivial oa), fun b z => .inl (k2 b z)⟩
      · exact False.elim R
    | _ => exact False.elim R
  · simp only [exec] at R
    split at R
    · rename_i ds ex; exact absurd ⟨ds, ex⟩ hds
    · rename_i kvs ex
      obtain ⟨a, g1, g2⟩ := Su.own i _ ex
      refine st_read (c := cfg X O) (B := B) (W := W) (D := D) (T := fun y H1 => gSub (tVar i) (tE (cfg X O) B W G (ev S.F k G)) (fun o i v H Q => rSetL o i v H Q ∨ rSetD (cfg X O) o i v H Q ∨ rSetT (cfg X O) o i v H Q) y σ H1 D.nx) ⟨Su, R⟩ fun r v H1 s1 Su Su1 rv R => ?_
      refine ⟨_, g1, ?_⟩
      refine st_read (c := cfg X O) (B := B) (W := W) (D := D) (T := fun y H2 => rSetL (.ref a) y v H2 (fun H3 => D.nx σ H3) ∨ rSetD (cfg X O) (.ref a) y v H2 (fun H3 => D.nx σ H3) ∨ rSetT (cfg X O) (.ref a) y v H2 fun H3 => D.nx σ H3) ⟨Su1, R.later (Step.of s1 fun a z => .inl z)⟩ fun q w H2 s2 _ Su2 rw' R => ?_
      split at R
      · rename_i hc
        obtain ⟨hf, hk, hl⟩ := hc
        have oa : Owned G σ a := ⟨i, _, ex, g1⟩
        have g3 : OwnAt (cfg X O) (Zof B G σ) H2 (.dct kvs) a := (g2.same s1).same s2
        obtain ⟨gu, gu1, gu2⟩ := g3.some
        unfold keysOk at hk
        rw [Bool.or_eq_true] at hk
        rcases hk with hk | hk
        rotate_left
        · refine .inr (.inr ⟨Zof B G σ, H1, a, kvs, q.2, r.2, q.1, rfl, g3, hk, hl, rw', (rv.mono s2).keep hf Su.ztr, fun us ru => ?_⟩)
          have hx : ∀ b, b ≠ a → H2 b ≠ none → (upd H2 a (.ext (phT X.prog X.w a us))) b = H2 b := fun b nb _ => upd_ne nb
          have ez : Ext (Zof B G σ) H2 (upd H2 a (.ext (phT X.prog X.w a us))) := Ext.upd gu1 gu2 (.inr oa)
          obtain ⟨k1, k2⟩ := Su2.wr (d' := .dct (dPut kvs q.2 r.2)) ex g1 hx (OwnAt.dctT (us := us) upd_same (RepT.mono ez ru))
          exact R _ _ k1 ⟨(Same.ext s2).trans (Ext.upd gu1 gu2 oa), fun b z => .inl (k2 b z)⟩
        refine .inr (.inl ⟨Zof B G σ, H1, a, kvs, q.2, r.2, q.1, rfl, g3, hk, hl, rw', (rv.mono s2).keep hf Su.ztr, fun us ru => ?_⟩)
        have hx : ∀ b, b ≠ a → H2 b ≠ none → (upd H2 a (.ext (phK X.prog X.w (noBl (dPut kvs q.2 r.2)) a us))) b = H2 b := fun b nb _ => upd_ne nb
        have ez : Ext (Zof B G σ) H2 (upd H2 a (.ext (phK X.prog X.w (noBl (dPut kvs q.2 r.2)) a us))) := Ext.upd gu1 gu2 (.inr oa)
        obtain ⟨k1, k2⟩ := Su2.wr (d' := .dct (dPut kvs q.2 r.2)) ex g1 hx (OwnAt.dctK (us := us) upd_same (RepK.mono ez ru))
        exact R _ _ k1 ⟨(Same.ext s2).trans (Ext.upd gu1 gu2 oa), fun b z => .inl (k2 b z)⟩
      · exact False.elim R
    · exact False.elim R
/-! ### together -/
theorem seq_read {c : Cfg} {D : Ends} {G : Ev} {σ : L2.St} {H : Hp} {o : Out} {f : Ev → Out} (h : tS c B W G (match o with | .nx G' => f G' | o => o) D σ H) : tS c B W G o { D with nx := tSx c B W f D } σ H := by
  obtain ⟨Su, R⟩ := h
  refine ⟨Su, ?_⟩
  cases o with
  | nx G' => exact fun σ' H' Su' st => ⟨G', Su', R.later st⟩
  | _ => exact R
theorem st_if (C : CtxOk S X O W sc) {t : IE} {a b : IS} {tx : Expr} {as bs : List Stmt} {pos : Pos} (ht : isTst t = true) (h : okE S t sc tx = true) (ha : PSs X as (tSx (cfg X O) B W (exec S.F n a))) (hb : PSs X bs (tSx (cfg X O) B W (exec S.F n b))) (G : Ev) :
    PS X (.If tx as bs pos) (tS (cfg X O) B W G (exec S.F n (.if_ t a b) G)) := by
  refine (ps_if ((ev_ok (O := O) S t X W sc B G tx C h).2 ht) ha hb).weak fun D σ H hq => ?_
  obtain ⟨Su, R⟩ := hq
  simp only [exec] at R
  show tT _ _ _ _ _ σ H _
  cases e : asB (ev S.F t G) with
  | no => rw [e] at R; exact False.elim R
  | ex x fs => rw [e] at R; exact ⟨Su, fun cls dd H' s e => R cls dd σ H' (Su.same s) (Step.of s fun a z => .inl z) e⟩
  | ok b =>
    rw [e, Rs.out_ok] at R
    refine ⟨Su, fun H1 s1 => ?_⟩
    cases b with
    | true => rw [if_pos rfl] at R ⊢; exact ⟨G, Su.same s1, R.later (Step.of s1 fun a z => .inl z)⟩
    | false => rw [if_neg Bool.false_ne_true] at R ⊢; exact ⟨G, Su.same s1, R.later (Step.of s1 fun a z => .inl z)⟩
theorem st_whl (C : CtxS S X O W sc xs) {t : IE} {b : IS} {tx : Expr} {bs : List Stmt} {pos : Pos} (ht : isTst t = true) (h : okE S t sc tx = true) (hb : PSs X bs (tSx (cfg X O) B W (exec S.F n b))) (G : Ev) :
    PS X (.While tx bs [] pos) (tS (cfg X O) B W G (exec S.F n (.whl t b) G)) := by
  refine (ps_while C.po (PT.any fun G => (ev_ok (O := O) S t X W sc B G tx C.toCtxOk h).2 ht) hb).weak fun D σ H hq => ?_
  obtain ⟨Su, R⟩ := hq
  simp only [exec] at R
  refine ⟨fun m σ' H' => ∃ G', StOk (cfg X O) B G' σ' H' ∧ ResS (cfg X O) B W D G' σ' H' (loopW (fun G' => asB (ev S.F t G')) (fun G' => exec S.F n b G') m G'), ⟨n, G, Su, R⟩, ?_⟩
  rintro m σ1 H1 ⟨G1, Su1, R1⟩
  cases m with
  | zero => exact False.elim R1
  | succ m =>
    refine ⟨G1, ?_⟩
    unfold loopW at R1
    cases e : asB (ev S.F t G1) with
    | no => rw [e] at R1; exact False.elim R1
    | ex x fs => rw [e] at R1; exact ⟨Su1, fun cls dd H' s e => R1 cls dd σ1 H' (Su1.same s) (Step.of s fun a z => .inl z) e⟩
    | ok tb =>
      rw [e, Rs.out_ok] at R1
      refine ⟨Su1, fun H2 s2 => ?_⟩
      have Su2 := Su1.same s2
      have st2 : Step G1 σ1 H1 G1 σ1 H2 := Step.of s2 fun a z => .inl z
      cases tb with
      | false => dsimp only; rw [if_neg Bool.false_ne_true] at R1 ⊢; exact R1 σ1 H2 Su2 st2
      | true =>
        dsimp only
        rw [if_pos rfl] at R1 ⊢
        refine ⟨fun σ' H' => ∃ G', StOk (cfg X O) B G' σ' H' ∧ ResS (cfg X O) B W D G' σ' H' (loopW (fun G' => asB (ev S.F t G')) (fun G' => exec S.F n b G') m G'), fun σ' H' z => ⟨m, Nat.lt_succ_self m, z⟩, G1, Su2, ?_⟩
        cases eb : exec S.F n b G1 with
        | no => rw [eb] at R1; exact R1
        | nx G2 => rw [eb] at R1; exact fun σ' H' Su' st => ⟨G2, Su', R1.later (st2.trans st)⟩
        | ct G2 => rw [eb] at R1; exact fun σ' H' Su' st => ⟨G2, Su', R1.later (st2.trans st)⟩
        | bk G2 => rw [eb] at R1; exact fun σ' H' Su' st => R1 σ' H' Su' (st2.trans st)
        | rt o d => rw [eb] at R1; exact ResS.later (o := .rt o d) R1 st2
        | ex G2 x fs => rw [eb] at R1; exact ResS.later (o := .ex G2 x fs) R1 st2
theorem st_for (C : CtxS S X O W sc xs) {tg : Tg} {it : II} {b : IS} {tgx itx : Expr} {bs : List Stmt} {pos : Pos} (ht : okT S (stF sc) tg tgx = true) (h : okI S it sc tgx itx = true) (hb : PSs X bs (tSx (cfg X O) B W (exec S.F n b))) (G : Ev) :
    PS X (.For tgx itx bs [] pos) (tS (cfg X O) B W G (exec S.F n (.for_ tg it b) G)) := by
  obtain ⟨hI, hs⟩ := evI_ok (O := O) S it X W sc B G tgx itx C.toCtxOk h
  refine (ps_for C.po C.calm hI (pg_tg (S := S) (sl := stF sc) C.N C.nd C.locs C.calm ht) hb (hs _)).weak fun D σ H hq => ?_
  obtain ⟨Su, R⟩ := hq
  simp only [exec] at R
  show tI _ _ _ _ _ σ H _
  refine ⟨Su, ?_⟩
  cases eI : evI S.F it G with
  | no => rw [eI] at R; exact R
  | ex x fs => rw [eI] at R; exact fun cls dd H' s e => R cls dd σ H' (Su.same s) (Step.of s fun a z => .inl z) e
  | ok ds =>
    rw [eI, Rs.out_ok] at R
    intro J H1 s1 ⟨Y, w, hy⟩
    have Su1 := Su.same s1
    have R1 := R.later (Step.of (G' := G) (σ' := σ) s1 fun a z => .inl z)
    refine for_it (g := gTg X.K tg) (tb := tSx (cfg X O) B W (exec S.F n b)) w (fun i σ2 H2 => ∃ G2, StOk (cfg X O) B G2 σ2 H2 ∧ Step G σ H1 G2 σ2 H2 ∧ ResS (cfg X O) B W D G2 σ2 H2 (loopF tg (fun G' => exec S.F n b G') (ds.drop i) G2)) ⟨G, Su1, Step.refl, R1⟩ ?_ ?_ ?_
    · rintro i σ2 H2 hi ⟨G2, Su2, st2, _⟩
      exact st2.ext.less fun b q => .inl (.inr q)
    · rintro i x σ2 H2 H3 hi ⟨G2, Su2, st2, R2⟩ hY
      have ex : Ext (Zw (Zof B G σ) H1) H1 H2 := st2.ext.less fun b q => .inl (.inr q)
      obtain ⟨s3, d, hd, rd⟩ := hy i H2 x H3 (Zof B G2 σ2) hi ex hY (fun b z => z.elim (fun q => .inl (.inl q)) fun q => (st2.own b q).elim (fun q => .inl (.inr q)) .inr) Su2.ztr
      rw [List.drop_eq_getElem_cons hi] at R2
      have ed : ds[i] = d := by rw [List.getElem?_eq_getElem hi] at hd; exact Option.some.inj hd
      rw [ed] at R2
      unfold loopF at R2
      cases eB : bindT tg d G2 with
      | none => rw [eB] at R2; exact False.elim R2
      | some G3 =>
        rw [eB] at R2
        dsimp only at R2
        refine gTg_ok (c := cfg X O) eB rd (Su2.same s3) fun σ3 Su3 lo at3 => ?_
        have st3 : Step G2 σ2 H2 G3 σ3 H3 := Step.of s3 fun a z => .inl (lo a z)
        refine ⟨G3, Su3, ?_⟩
        cases eb : exec S.F n b G3 with
        | no => rw [eb] at R2; exact R2
        | nx G4 => rw [eb] at R2; exact fun σ' H' Su' st => ⟨G4, Su', st2.trans (st3.trans st), R2.later (st3.trans st)⟩
        | ct G4 => rw [eb] at R2; exact fun σ' H' Su' st => ⟨G4, Su', st2.trans (st3.trans st), R2.later (st3.trans st)⟩
        | bk G4 => rw [eb] at R2; exact fun σ' H' Su' st => R2 σ' H' Su' (st3.trans st)
        | rt o d => rw [eb] at R2; exact ResS.later (o := .rt o d) R2 st3
        | ex G4 x fs => rw [eb] at R2; exact ResS.later (o := .ex G4 x fs) R2 st3
    · rintro σ2 H2 ⟨G2, Su2, st2, R2⟩
      rw [List.drop_length] at R2
      exact R2 σ2 H2 Su2 Step.refl
theorem st_rse (C : CtxS S X O W sc xs) {c : Nat} {x : Str} {st : Stmt} (h : (rseN x st && xs.contains (c, x) && isGl sc x && plainN x) = true) (G : Ev) : PS X st (tS (cfg X O) B W G (exec S.F n (.rse c x) G)) := by
  simp only [Bool.and_eq_true, decide_eq_true_eq] at h
  obtain ⟨⟨⟨h1, h2⟩, h3⟩, h4⟩ := h
  obtain ⟨m, j, p, q2, q3, pos, rfl⟩ := rseN_of h1
  obtain ⟨p1, p2, p3⟩ := plainN_of h4
  have E := C.xs c x h2
  obtain ⟨bmB, Bn, newId, initId, F, q⟩ := E.ex
  refine (ps_raise C.calm C.tk (pmk_own F q E.mg E.kp E.rs (C.gl h3) p1)).weak fun D σ H ⟨Su, R⟩ => ?_
  exact R _ none σ H Su Step.refl ⟨rfl, .inl ⟨rfl, rfl⟩⟩
end
theorem StOk.forgot {c : Cfg} {B : Addr → Prop} {G : Ev} {σ : L2.St} {H : Hp} (Su : StOk c B G σ H) : ∀ is : List Nat, StOk c B (forget is G) σ H ∧ ∀ a, Owned (forget is G) σ a → Owned G σ a
  | [] => ⟨Su, fun _ h => h⟩
  | i :: is => by
    obtain ⟨k1, k2⟩ := Su.forgot is
    exact ⟨k1.clr rfl fun _ _ => rfl, fun a h => k2 a (own_clr (fun _ _ => rfl) h)⟩
def isLeaf : IS → Bool
  | .if_ _ _ _ => false | .whl _ _ => false | .for_ _ _ _ => false | .try_ _ _ _ _ _ => false | _ => true
/-- the context of a try's body -/
theorem CtxS.toTry {S : Stat} {X : Cx} {O : OpT} {W W' : WX} {sc : Scope} {xs : List (Nat × Str)} (C : CtxS S X O W sc xs) {pn : List (Addr × Obj)} {xe : Value → Shared → Prop} (tk : Takes (X.tr pn xe) W') (po : PassesOwn (model X.prog X.w) X.A X.env xe) : CtxS S (X.tr pn xe) O W' sc xs :=
  { N := C.N, nd := C.nd, kd := C.kd, sc := C.sc, calm := C.calm, room := C.room, tk := tk, bs := C.bs, fs := C.fs, gs := C.gs, xt := C.xt, po := po, fn := C.fn, xs := fun c x h => let E := C.xs c x h; ⟨E.ex, E.mg, E.kp, E.rs⟩, yt := C.yt, tr := C.tr, stk := C.stk, fra := C.fra, exn := C.exn }
theorem TrOk.names {S : Stat} {X : Cx} {O : OpT} {W : WX} {sc : Scope} {y : Str} {c : Value} (C : CtxB S X O W sc) (hg : isGl sc y = true) (hp : plainN y = true) (hm : X.mg y = some c) : Names X y c := ⟨C.gl hg, (plainN_of hp).1, .inl hm⟩
theorem leaf_ok {O : OpT} (S : Stat) {X : Cx} {W : WX} {sc : Scope} {xs : List (Nat × Str)} {B : Addr → Prop} {n : Nat} (C : CtxS S X O W sc xs) : ∀ (p : IS) (st : Stmt), isLeaf p = true → okSt S xs sc p st = true → ∀ G, PS X st (tS (cfg X O) B W G (exec S.F n p G))
  | .nil, st, _, h, G => by cases st <;> simp [okSt] at h
  | .seq _ _, st, _, h, G => by cases st <;> simp [okSt] at h
  | .set i e, st, _, h, G => by
    cases st <;> first | (simp [okSt] at h; done) | skip
    rename_i ts v pos
    cases ts with
    | nil => simp [okSt] at h
    | cons t ts =>
      cases ts with
      | cons _ _ => cases t <;> simp [okSt] at h
      | nil =>
        cases t <;> first | (simp [okSt] at h; done) | skip
        exact st_set C h G
  | .own i e, st, _, h, G => by
    cases st <;> first | (simp [okSt] at h; done) | skip
    rename_i ts v pos
    cases ts with
    | nil => simp [okSt] at h
    | cons t ts =>
      cases ts with
      | cons _ _ => cases t <;> simp [okSt] at h
      | nil =>
        cases t <;> first | (simp [okSt] at h; done) | skip
        exact st_own C h G
  | .mv i e, st, _, h, G => by
    cases st <;> first | (simp [okSt] at h; done) | skip
    rename_i ts v pos
    cases ts with
    | nil => simp [okSt] at h
    | cons t ts =>
      cases ts with
      | cons _ _ => cases t <;> simp [okSt] at h
      | nil =>
        cases t <;> first | (simp [okSt] at h; done) | skip
        exact st_mv C h G
  | .retd i, st, _, h, G => by
    cases st <;> first | (simp [okSt] at h; done) | skip
    rename_i v pos
    cases v with
    | none => simp [okSt] at h
    | some v =>
      cases v <;> first | (simp [okSt] at h; done) | skip
      exact st_retd C.toCtxOk h G
  | .frz i, st, _, h, G => by cases st <;> simp [okSt] at h
  | .fgt is, st, _, h, G => by cases st <;> simp [okSt] at h
  | .unp is e, st, _, h, G => by
    cases st <;> first | (simp [okSt] at h; done) | skip
    rename_i ts v pos
    cases ts with
    | nil => simp [okSt] at h
    | cons t ts =>
      cases ts with
      | cons _ _ => cases t <;> simp [okSt] at h
      | nil =>
        cases t <;> first | (simp [okSt] at h; done) | skip
        exact st_unp C h G
  | .aug i op e, st, _, h, G => by
    cases st <;> first | (simp [okSt] at h; done) | skip
    rename_i t o v pos
    cases t <;> first | (simp [okSt] at h; done) | skip
    exact st_aug C h G
  | .app i e, st, _, h, G => by
    cases st <;> first | (simp [okSt] at h; done) | skip
    rename_i v pos
    cases v <;> first | (simp [okSt] at h; done) | skip
    rename_i f as kws cpos
    cases f <;> first | (simp [okSt] at h; done) | skip
    rename_i o y apos
    cases o <;> first | (simp [okSt] at h; done) | skip
    cases as with
    | nil => simp [okSt] at h
    | cons v as =>
      cases as with
      | cons _ _ => simp [okSt] at h
      | nil =>
        cases kws with
        | cons _ _ => simp [okSt] at h
        | nil => exact st_app C.toCtxOk h G
  | .ins i k e, st, _, h, G => by
    cases st <;> first | (simp [okSt] at h; done) | skip
    rename_i v pos
    cases v <;> first | (simp [okSt] at h; done) | skip
    rename_i f as kws cpos
    cases f <;> first | (simp [okSt] at h; done) | skip
    rename_i o y apos
    cases o <;> first | (simp [okSt] at h; done) | skip
    cases as with
    | nil => simp [okSt] at h
    | cons kx as =>
      cases as with
      | nil => simp [okSt] at h
      | cons v as =>
        cases as with
        | cons _ _ => simp [okSt] at h
        | nil =>
          cases kws with
          | cons _ _ => simp [okSt] at h
          | nil => exact st_ins C.toCtxOk h G
  | .put i k e, st, _, h, G => by
    cases st <;> first | (simp [okSt] at h; done) | skip
    rename_i ts v pos
    cases ts with
    | nil => simp [okSt] at h
    | cons t ts =>
      cases ts with
      | cons _ _ =>
        cases t <;> first | exact absurd h Bool.false_ne_true | skip
        all_goals (rename_i o _ _; cases o <;> exact absurd h Bool.false_ne_true)
      | nil =>
        cases t <;> first | (simp [okSt] at h; done) | skip
        rename_i o kx p2
        cases o <;> first | (simp [okSt] at h; done) | skip
        exact st_put C.toCtxOk h G
  | .do_ e, st, _, h, G => by
    cases st <;> first | (simp [okSt] at h; done) | skip
    exact st_do C.toCtxOk h G
  | .ret e, st, _, h, G => by
    cases st <;> first | (simp [okSt] at h; done) | skip
    rename_i v pos
    cases v with
    | none => simp [okSt] at h
    | some v => exact st_ret C.toCtxOk h G
  | .retp i, st, _, h, G => by
    cases st <;> first | (simp [okSt] at h; done) | skip
    rename_i v pos
    cases v with
    | none => simp [okSt] at h
    | some v =>
      cases v <;> first | (simp [okSt] at h; done) | skip
      exact st_retp C.toCtxOk h G
  | .retN, st, _, h, G => by
    cases st <;> first | (simp [okSt] at h; done) | skip
    rename_i v pos
    cases v with
    | some _ => simp [okSt] at h
    | none => exact ps_retN.weak fun D σ H ⟨Su, R⟩ => R .non H (Ext.refl _ _) Rep.non
  | .brk, st, _, h, G => by
    cases st <;> first | (simp [okSt] at h; done) | skip
    exact ps_break.weak fun D σ H ⟨Su, R⟩ => R σ H Su Step.refl
  | .cnt, st, _, h, G => by
    cases st <;> first | (simp [okSt] at h; done) | skip
    exact ps_continue.weak fun D σ H ⟨Su, R⟩ => R σ H Su Step.refl
  | .pass, st, _, h, G => by
    cases st <;> first | (simp [okSt] at h; done) | skip
    · rename_i v pos
      cases v <;> first | (simp [okSt] at h; done) | skip
      rename_i c j p
      cases c <;> first | (simp [okSt] at h; done) | skip
      exact ps_doc.weak fun D σ H ⟨Su, R⟩ => R σ H Su Step.refl
    · exact ps_pass.weak fun D σ H ⟨Su, R⟩ => R σ H Su Step.refl
  | .nev, st, _, h, G => PS.never fun σ H D q => q.2
  | .rse c x, st, _, h, G => st_rse C h G
  | .xs t as, st, _, h, G => by
    have h : (S.yts.contains t && (match ytDec t S sc st with | some es => okA S as sc es | none => false)) = true := by cases st <;> exact h
    rw [Bool.and_eq_true] at h
    obtain ⟨h1, h2⟩ := h
    split at h2
    · rename_i es he
      exact C.yt t h1 X O W sc B G st es as rfl C.toCtxB he (evs_parts S as X W sc B G es C.toCtxOk h2)
    · cases h2
  | .try_ _ _ _ _ _, _, z, _, _ => by cases z
  | .if_ _ _ _, _, z, _, _ => by cases z
  | .whl _ _, _, z, _, _ => by cases z
  | .for_ _ _ _, _, z, _, _ => by cases z
theorem PSs.lenN {X : Cx} {b : List Stmt} {t : TS} (h : PSs X b t) : PSs X b (fun D σ H => σ.length = X.N.length → t D σ H) := ⟨fun pins s σ H D I q => h.run pins s σ H D I (q I.len)⟩
theorem nLocal {sc : Scope} {env : Env} {x : Str} (h : sc.names.lookup x = some .local) (e : env.scope = sc) : env.kindOf x = some .local := by
  subst e; exact h
theorem st_try_as {O : OpT} {S : Stat} {X : Cx} {W : WX} {sc : Scope} {xs : List (Nat × Str)} {B : Addr → Prop} {n : Nat} (C : CtxS S X O W sc xs) {b : IS} {y nm m : Str} {ys ns : List Nat} {i j : Nat} {body : List Stmt} {p1 p2 p3 p4 p5 p6 : Pos}
    (h3 : S.trs.contains (y, ys, ns) = true) (h4 : isGl sc y = true) (h5 : plainN y = true) (h6 : S.N[i]? = some nm) (h7 : sc.names.lookup nm = some .local) (h9 : plainN nm = true) (h10 : okN S sc j m = true)
    (hb : ∀ (W' : WX) (pn : List (Addr × Obj)) (xe : Value → Shared → Prop), Takes (X.tr pn xe) W' → PassesOwn (model X.prog X.w) X.A X.env xe → PSs (X.tr pn xe) body (tSx (cfg X O) B W' (exec S.F n b))) (G : Ev) :
    PS X (.Try body [.ExceptHandler (some (.Name y p1)) (some nm) [.Assign [.Name m p2] (.Name nm p3) p4] p5] [] [] p6) (tS (cfg X O) B W G (exec S.F n (.try_ b y ys ns (.as i j)) G)) := by
  obtain ⟨⟨c, hc, hy, hn⟩, hop⟩ := C.tr y ys ns h3
  have hi : X.N[i]? = some nm := by rw [C.N]; exact h6
  obtain ⟨hj, hl⟩ := okN_of C h10
  have hloc := nLocal h7 C.sc
  obtain ⟨q1, q2, _⟩ := plainN_of h9
  have hsu : ∀ (a : Addr) (oe : Obj) (cls : Value) (d : Option Addr) (pn : List (Addr × Obj)), Zc cls d oe → (∃ vs, oe.data = .fields vs) → PSs (X.suite a ((a, oe) :: pn)) [.Assign [.Name m p2] (.Name nm p3) p4] (fun D σ H => σ.length = X.N.length → σ[i]? = some (some (.ref a)) ∧ D.nx (σ.set j (some (.ref a))) H) := fun a oe cls d pn _ _ => by
    refine PSs.lenN ((pss_one (ps_set (X := X.suite a ((a, oe) :: pn)) C.nd hj hl (pe_var (i := i) hi (.inl hloc) q1 q2) (by rfl) (C.fnL hl))).weak fun D σ H ⟨e1, e2⟩ => ⟨_, e1, e2⟩)
  refine (try_keep (tb := fun W' => tSx (cfg X O) B W' (exec S.F n b)) (Wout := W) C.exn C.stk C.fra C.nd hi hloc (TrOk.names C.toCtxB h4 h5 hc) C.tk hb hsu).weak fun D σ H ⟨Su, R⟩ => ⟨G, Su, ?_⟩
  simp only [exec] at R
  cases e : exec S.F n b G with
  | no => rw [e] at R; exact R
  | nx G' => rw [e] at R; exact R
  | ct G' => rw [e] at R; exact R
  | bk G' => rw [e] at R; exact R
  | rt o d => rw [e] at R; exact R
  | ex G' k fs =>
    rw [e] at R
    unfold tryO at R
    dsimp only at R
    intro cls dd σ' H' Su' st' ex
    obtain ⟨rfl, ex⟩ := ex
    by_cases ky : ys.contains k = true
    · rw [if_pos ky] at R
      refine ⟨true, hy k ky, fun _ a na hlen => ⟨?_, ?_⟩, fun z => by cases z⟩
      · rw [List.length_set] at hlen
        have hlt : i < σ'.length := by rw [hlen]; exact (List.getElem?_eq_some_iff.mp hi).1
        rw [List.getElem?_set_self hlt]
      · have nz : ¬ Zof B G' σ' a := fun z => Su'.ztr a z na
        have sm : Same H' (upd H' a (.ext (errAt a (.ref (O.ecls k)) dd))) := Same.new na
        have S1 := Su'.same sm
        have er : ∃ vs, Reps (cfg X O) (Zof B G' σ') (upd H' a (.ext (errAt a (.ref (O.ecls k)) dd))) fs vs ∧ ((vs = [] ∧ dd = none) ∨ ∃ d, dd = some d ∧ ¬ Zof B G' σ' d ∧ upd H' a (.ext (errAt a (.ref (O.ecls k)) dd)) d = some (.xd ((O.enames k).zip vs))) := by
          rcases ex with ⟨e1, e2⟩ | ⟨d, vs, e1, e2, e3, e4⟩
          · subst e1; exact ⟨[], .nil, .inl ⟨rfl, e2⟩⟩
          · exact ⟨vs, e4.same sm, .inr ⟨d, e1, e2, sm.keep _ _ e3 trivial⟩⟩
        obtain ⟨vs, er, eo⟩ := er
        have rp : Rep (cfg X O) (Zof B G' σ') (upd H' a (.ext (errAt a (.ref (O.ecls k)) dd))) (.opq k fs) (.ref a) := .opq (hop k ky _ _ a dd vs nz upd_same eo) er
        have S2 := S1.set (i := i) rp
        have o2 : ∀ b', Owned (G'.set i (some (false, .opq k fs))) (σ'.set i (some (.ref a))) b' → Owned G' σ' b' := fun b' z => own_set z
        have rp2 : Rep (cfg X O) (Zof B (G'.set i (some (false, .opq k fs))) (σ'.set i (some (.ref a)))) (upd H' a (.ext (errAt a (.ref (O.ecls k)) dd))) (.opq k fs) (.ref a) := rp.less fun b' z => z.imp id (o2 b')
        have S3 := S2.set (i := j) rp2
        have o3 : ∀ b', Owned ((G'.set i (some (false, .opq k fs))).set j (some (false, .opq k fs))) ((σ'.set i (some (.ref a))).set j (some (.ref a))) b' → Owned G' σ' b' := fun b' z => o2 b' (own_set z)
        have S4 := S3.clr (i := i) (σ' := ((σ'.set i (some (.ref a))).set j (some (.ref a))).set i none) (by simp) (fun l hl => by rw [List.getElem?_set_ne (Ne.symm hl)])
        exact R _ _ S4 (st'.trans (Step.of sm fun b' z => .inl (o3 b' (own_clr (fun l hl => by rw [List.getElem?_set_ne (Ne.symm hl)]) z))))
    · rw [if_neg ky] at R
      by_cases kn : ns.contains k = true
      · rw [if_pos kn] at R
        exact ⟨false, hn k kn, fun z => (by cases z), fun _ => R _ dd σ' H' Su' st' ⟨rfl, ex⟩⟩
      · rw [if_neg kn] at R; exact False.elim R
theorem st_try_cst {O : OpT} {S : Stat} {X : Cx} {W : WX} {sc : Scope} {xs : List (Nat × Str)} {B : Addr → Prop} {n : Nat} (C : CtxS S X O W sc xs) {b : IS} {y m : Str} {ys ns : List Nat} {j : Nat} {d : RA.D} {v : Expr} {body : List Stmt} {p1 p2 p4 p5 p6 : Pos}
    (h3 : S.trs.contains (y, ys, ns) = true) (h4 : isGl sc y = true) (h5 : plainN y = true) (h6 : okCst d v = true) (h7 : okN S sc j m = true)
    (hb : ∀ (W' : WX) (pn : List (Addr × Obj)) (xe : Value → Shared → Prop), Takes (X.tr pn xe) W' → PassesOwn (model X.prog X.w) X.A X.env xe → PSs (X.tr pn xe) body (tSx (cfg X O) B W' (exec S.F n b))) (G : Ev) :
    PS X (.Try body [.ExceptHandler (some (.Name y p1)) none [.Assign [.Name m p2] v p4] p5] [] [] p6) (tS (cfg X O) B W G (exec S.F n (.try_ b y ys ns (.cst j d)) G)) := by
  obtain ⟨⟨c, hc, hy, hn⟩, hop⟩ := C.tr y ys ns h3
  obtain ⟨hj, hl⟩ := okN_of C h7
  unfold okCst at h6
  split at h6
  rotate_left
  · cases h6
  rename_i cst kk pp
  have hv : ∃ w : V, (∀ c Z H, Rep c Z H d w) ∧ ∀ X' : Cx, PE X' (.Constant cst kk pp) (tC w) := by
    unfold okK at h6
    split at h6
    · exact ⟨.non, fun _ _ _ => .non, fun _ => pe_non⟩
    · have e := eq_of_beq h6; subst e; exact ⟨.bl _, fun _ _ _ => .bl _, fun _ => pe_bl⟩
    · have e := of_decide_eq_true h6; subst e; exact ⟨.int _, fun _ _ _ => .int _, fun _ => pe_int⟩
    · have e := of_decide_eq_true h6; subst e; exact ⟨.str _, fun _ _ _ => .str _, fun _ => pe_str⟩
    · cases h6
  obtain ⟨w, hr, hp⟩ := hv
  have hsu : ∀ (a : Addr) (oe : Obj) (cls : Value) (dd : Option Addr) (pn : List (Addr × Obj)), Zc cls dd oe → (∃ vs, oe.data = .fields vs) → PSs (X.suite a ((a, oe) :: pn)) [.Assign [.Name m p2] (.Constant cst kk pp) p4] (fun D σ H => D.nx (σ.set j (some w)) H) := fun a oe cls dd pn _ _ => by
    refine (pss_one (ps_set (X := X.suite a ((a, oe) :: pn)) C.nd hj hl (hp _) (by rfl) (C.fnL hl))).weak fun D σ H e1 => e1
  refine (ps_try_only (tb := fun W' => tSx (cfg X O) B W' (exec S.F n b)) (Wout := W) C.stk C.fra (TrOk.names C.toCtxB h4 h5 hc) C.tk hb hsu).weak fun D σ H ⟨Su, R⟩ => ⟨G, Su, ?_⟩
  simp only [exec] at R
  cases e : exec S.F n b G with
  | no => rw [e] at R; exact R
  | nx G' => rw [e] at R; exact R
  | ct G' => rw [e] at R; exact R
  | bk G' => rw [e] at R; exact R
  | rt o d => rw [e] at R; exact R
  | ex G' k fs =>
    rw [e] at R
    unfold tryO at R
    dsimp only at R
    intro cls dd σ' H' Su' st' ex
    obtain ⟨rfl, ex⟩ := ex
    by_cases ky : ys.contains k = true
    · rw [if_pos ky] at R
      exact ⟨true, hy k ky, fun _ a na => R _ _ (Su'.set (hr _ _ _)) (st'.trans (Step.of (Same.refl _) fun b' z => .inl (own_set z))), fun z => by cases z⟩
    · rw [if_neg ky] at R
      by_cases kn : ns.contains k = true
      · rw [if_pos kn] at R
        exact ⟨false, hn k kn, fun z => (by cases z), fun _ => R _ dd σ' H' Su' st' ⟨rfl, ex⟩⟩
      · rw [if_neg kn] at R; exact False.elim R
mutual
theorem st_ok {O : OpT} (S : Stat) {X : Cx} {W : WX} {sc : Scope} {xs : List (Nat × Str)} {B : Addr → Prop} {n : Nat} (C : CtxS S X O W sc xs) : ∀ (p : IS) (st : Stmt), okSt S xs sc p st = true → ∀ G, PS X st (tS (cfg X O) B W G (exec S.F n p G))
  | .if_ t a b, st, h, G => by
    cases st <;> first | (simp [okSt] at h; done) | skip
    rename_i tx as bs pos
    have h : (isTst t && okE S t sc tx && okSts S xs sc a as && okSts S xs sc b bs) = true := h
    simp only [Bool.and_eq_true] at h
    exact st_if C.toCtxOk h.1.1.1 h.1.1.2 (sts_ok S C a as h.1.2) (sts_ok S C b bs h.2) G
  | .whl t b, st, h, G => by
    cases st <;> first | (simp [okSt] at h; done) | skip
    rename_i tx bs os pos
    cases os with
    | cons _ _ => simp [okSt] at h
    | nil =>
      have h : (isTst t && okE S t sc tx && okSts S xs sc b bs) = true := h
      simp only [Bool.and_eq_true] at h
      exact st_whl C h.1.1 h.1.2 (sts_ok S C b bs h.2) G
  | .for_ tg it b, st, h, G => by
    cases st <;> first | (simp [okSt] at h; done) | skip
    rename_i tgx itx bs os pos
    cases os with
    | cons _ _ => simp [okSt] at h
    | nil =>
      have h : (okT S (stF sc) tg tgx && okI S it sc tgx itx && okSts S xs sc b bs) = true := h
      simp only [Bool.and_eq_true] at h
      exact st_for C h.1.1 h.1.2 (sts_ok S C b bs h.2) G
  | .nil, st, h, G => leaf_ok S C (.nil) st rfl h G
  | .seq a b, st, h, G => leaf_ok S C (.seq a b) st rfl h G
  | .set a b, st, h, G => leaf_ok S C (.set a b) st rfl h G
  | .own a b, st, h, G => leaf_ok S C (.own a b) st rfl h G
  | .frz a, st, h, G => leaf_ok S C (.frz a) st rfl h G
  | .fgt a, st, h, G => leaf_ok S C (.fgt a) st rfl h G
  | .unp a b, st, h, G => leaf_ok S C (.unp a b) st rfl h G
  | .aug a b c, st, h, G => leaf_ok S C (.aug a b c) st rfl h G
  | .app a b, st, h, G => leaf_ok S C (.app a b) st rfl h G
  | .put a b c, st, h, G => leaf_ok S C (.put a b c) st rfl h G
  | .ins a b c, st, h, G => leaf_ok S C (.ins a b c) st rfl h G
  | .do_ a, st, h, G => leaf_ok S C (.do_ a) st rfl h G
  | .ret a, st, h, G => leaf_ok S C (.ret a) st rfl h G
  | .retp a, st, h, G => leaf_ok S C (.retp a) st rfl h G
  | .mv a b, st, h, G => leaf_ok S C (.mv a b) st rfl h G
  | .retd a, st, h, G => leaf_ok S C (.retd a) st rfl h G
  | .retN, st, h, G => leaf_ok S C (.retN) st rfl h G
  | .brk, st, h, G => leaf_ok S C (.brk) st rfl h G
  | .cnt, st, h, G => leaf_ok S C (.cnt) st rfl h G
  | .pass, st, h, G => leaf_ok S C (.pass) st rfl h G
  | .nev, st, h, G => leaf_ok S C (.nev) st rfl h G
  | .rse a b, st, h, G => leaf_ok S C (.rse a b) st rfl h G
  | .xs a b, st, h, G => leaf_ok S C (.xs a b) st rfl h G
  | .try_ b y ys ns hd, st, h, G => by
    cases hd with
    | as i j =>
      simp only [okSt] at h
      split at h
      rotate_left
      · cases h
      rename_i body y' nn m n' e
      obtain ⟨p1, p2, p3, p4, p5, p6, rfl⟩ := tryAs_of e
      simp only [Bool.and_eq_true, decide_eq_true_eq] at h
      obtain ⟨⟨⟨⟨⟨⟨⟨⟨⟨h1, h2⟩, h3⟩, h4⟩, h5⟩, h6⟩, h7⟩, h8⟩, h9⟩, h10⟩ := h
      subst h2 h8
      exact st_try_as C h3 h4 h5 h6 h7 h9 h10 (fun W' pn xe tk po => sts_ok (O := O) (B := B) (n := n) S (C.toTry tk po) b body h1) G
    | cst j d =>
      simp only [okSt] at h
      split at h
      rotate_left
      · cases h
      rename_i body y' m v e
      obtain ⟨p1, p2, p4, p5, p6, rfl⟩ := tryCst_of e
      simp only [Bool.and_eq_true, decide_eq_true_eq] at h
      obtain ⟨⟨⟨⟨⟨⟨h1, h2⟩, h3⟩, h4⟩, h5⟩, h6⟩, h7⟩ := h
      subst h2
      exact st_try_cst C h3 h4 h5 h6 h7 (fun W' pn xe tk po => sts_ok (O := O) (B := B) (n := n) S (C.toTry tk po) b body h1) G
theorem sts_ok {O : OpT} (S : Stat) {X : Cx} {W : WX} {sc : Scope} {xs : List (Nat × Str)} {B : Addr → Prop} {n : Nat} (C : CtxS S X O W sc xs) : ∀ (p : IS) (sts : List Stmt), okSts S xs sc p sts = true → PSs X sts (tSx (cfg X O) B W (exec S.F n p))
  | .nil, sts, h => by
    cases sts with
    | cons _ _ => simp [okSts] at h
    | nil => exact pss_nil.weak fun D σ H ⟨G, Su, R⟩ => R σ H Su Step.refl
  | .seq s r, sts, h => by
    by_cases hz : s = .nev
    · subst hz
      exact PSs.never fun σ H D ⟨G, Su, R⟩ => R
    · cases s
      case frz i =>
        have ih := sts_ok (O := O) (B := B) (n := n) S C r sts h
        refine ih.weak fun D σ H ⟨G, Su, R⟩ => ?_
        simp only [exec] at R
        rcases hG : G[i]? with _ | (_ | ⟨(_ | _), d⟩)
        · rw [hG] at R; exact False.elim R
        · rw [hG] at R; exact False.elim R
        · rw [hG] at R; exact False.elim R
        · rw [hG] at R
          obtain ⟨k1, k2⟩ := Su.frz hG
          exact ⟨_, k1, R.later (Step.of (Same.refl H) fun a z => .inl (k2 a z))⟩
      case fgt is =>
        have ih := sts_ok (O := O) (B := B) (n := n) S C r sts h
        refine ih.weak fun D σ H ⟨G, Su, R⟩ => ?_
        simp only [exec] at R
        obtain ⟨k1, k2⟩ := Su.forgot is
        exact ⟨_, k1, R.later (Step.of (Same.refl H) fun a z => .inl (k2 a z))⟩
      case nev => exact absurd rfl hz
      all_goals
        cases sts with
        | nil => simp [okSts] at h
        | cons st sts =>
          have h' := h
          simp only [okSts, Bool.and_eq_true] at h'
          exact (pss_cons (PS.any fun G => st_ok (O := O) (B := B) (n := n) S C _ st h'.1 G) (sts_ok (O := O) (B := B) (n := n) S C r sts h'.2)).weak fun D σ H ⟨G, hq⟩ => ⟨G, seq_read hq⟩
end
end RA
/-! RA13: a def of the text and its mirror; the law's end. -/
namespace RA
open PySem PySem.Spec PyProof.Rows L2
variable [Tabs]
theorem start_get {N : List Str} {vs : List V} {ds : List RA.D} (hl : ds.length = vs.length) {c : Cfg} {B : Addr → Prop} {H : Hp} (r : Reps c B H ds vs) (hn : ds.length ≤ N.length) (hB : ∀ a, B a → H a ≠ none) (hT : TabsOk H) : StOk c B (startG N.length ds) (L2.start N vs) H ∧ ∀ a, ¬ Owned (startG N.length ds) (L2.start N vs) a := by
  have nt : ∀ (i : Nat) (d : RA.D), (startG N.length ds)[i]? ≠ some (some (true, d)) := fun i d e => by
    unfold startG at e
    by_cases hi : i < (ds.map (fun d => some (false, d))).length
    · rw [List.getElem?_append_left hi, List.getElem?_map] at e
      cases q : ds[i]? with
      | none => rw [q] at e; cases e
      | some d' => rw [q] at e; cases e
    · rw [List.getElem?_append_right (by omega), List.getElem?_replicate] at e
      split at e <;> cases e
  have no : ∀ a, ¬ Owned (startG N.length ds) (L2.start N vs) a := fun a ⟨i, d, e, _⟩ => nt i d e
  refine ⟨⟨?_, hB, hT, fun a h => absurd h (no a), fun i j a ⟨d, e, _⟩ => absurd e (nt i d), fun i d e => ?_, fun i d e => absurd e (nt i d)⟩, no⟩
  · unfold startG L2.start
    rw [List.length_append, List.length_append, List.length_map, List.length_map, List.length_replicate, List.length_replicate, hl]
  · unfold startG at e
    by_cases hi : i < ds.length
    · rw [List.getElem?_append_left (by rw [List.length_map]; exact hi), List.getElem?_map, List.getElem?_eq_getElem hi] at e
      cases e
      obtain ⟨v, h1, h2⟩ := r.get (List.getElem?_eq_getElem hi)
      refine ⟨v, ?_, h2.less fun b z => z.elim id fun z => absurd z (no b)⟩
      unfold L2.start
      rw [List.getElem?_append_left (by rw [List.length_map, ← hl]; exact hi), List.getElem?_map, h1]; rfl
    · rw [List.getElem?_append_right (by rw [List.length_map]; omega), List.getElem?_replicate] at e
      split at e <;> cases e
section
variable {O : OpT} {P : Program} {w : World} {K : PySem.W.Frag} {mg : Str → Option Value} {base : Heap}
/-- a def by its body and its mirror -/
theorem fnok_of {S : Stat} {xs : List (Nat × Str)} {n : Nat} {m : List RA.D → Rs (Bool × RA.D)} {qual : Str} {st : Stmt} {f : Addr} {fd : FuncData} {ps : List Str} {ir : IS} (F : Fun K (S.nm n) qual st f fd) (Sc : FnScope S.N ps (defScope st))
    (ok : okSts S xs (defScope st) ir (defBody st) = true) (hbs : ∀ x, S.bs.contains x = true → mg x = none)
    (hfs : ∀ n, S.us.contains n = true → FOk { toOpT := O, P := P, w := w, K := K, mg := mg, base := base } S.nm S.k n (S.F n))
    (hgs : ∀ n, S.gs.contains n = true → GlOk { toOpT := O, P := P, w := w, K := K, mg := mg, base := base } S.nm n (S.F n []))
    (hxs : ∀ (X : Cx), X.K = K → X.mg = mg → ∀ c x, xs.contains (c, x) = true → ExOk X O c x)
    (hxt : ∀ t, S.xts.contains t = true → XtOk S { toOpT := O, P := P, w := w, K := K, mg := mg, base := base } t) (hyt : ∀ t, S.yts.contains t = true → YtOk S { toOpT := O, P := P, w := w, K := K, mg := mg, base := base } t) (htr : ∀ y ys ns, S.trs.contains (y, ys, ns) = true → TrOk K mg O y ys ns)
    (hrun : ∀ ds, m ds ≠ .no → ds.length = ps.length ∧ ∃ fuel, run S.F fuel S.N.length ir ds = m ds) : FnOk P w K mg base (L2.CX P w) (S.k + 1) f fd ps (spOf { toOpT := O, P := P, w := w, K := K, mg := mg, base := base } m) := by
  refine F.okX Sc (fun vs H Q E h => ?_) fun cdv A outer s H vs Q E hr hsp => ?_
  · obtain ⟨B, ds, hB, hT, hr, h⟩ := h
    have hne : m ds ≠ .no := fun z => by rw [z] at h; exact h
    rw [← hr.length]; exact (hrun ds hne).1
  · obtain ⟨B, ds, hB, hT, hrs, h⟩ := hsp
    have hne : m ds ≠ .no := fun z => by rw [z] at h; exact h
    obtain ⟨hl, fuel, hrun⟩ := hrun ds hne
    have hpl : ps.length ≤ S.N.length := by have := congrArg List.length Sc.pre; rw [List.length_take] at this; omega
    let X := cxOf (L2.CX P w) P w K mg base S.N qual (defScope st) f cdv A outer s H E
    have C : CtxS S X O (fun cls d _ H' => E cls d H') (defScope st) xs :=
      { N := rfl, nd := Sc.nd, kd := Sc.kind, sc := rfl, calm := rfl, room := hr, tk := takes_of rfl rfl rfl rfl, bs := hbs, fs := hfs, gs := hgs, po := passes_of rfl, fn := fun _ _ => rfl, xs := hxs X rfl rfl, xt := hxt, yt := hyt, tr := htr, stk := rfl, fra := rfl, exn := rfl }
    refine ⟨_, sts_ok (O := O) (B := B) (n := fuel) S C ir _ ok, startG S.N.length ds, ?_⟩
    obtain ⟨Su, no⟩ := start_get (N := S.N) (c := cfg X O) (B := B) (H := H) hrs.length hrs (by rw [hl]; exact hpl) hB hT
    refine ⟨Su, ?_⟩
    have same : ∀ {H'}, Ext (Owned (startG S.N.length ds) (L2.start S.N vs)) H H' → Same H H' := fun e => e.same no
    unfold run at hrun
    cases e : exec S.F fuel ir (startG S.N.length ds) with
    | no => rw [e] at hrun; exact absurd hrun.symm hne
    | bk G' => rw [e] at hrun; exact absurd hrun.symm hne
    | ct G' => rw [e] at hrun; exact absurd hrun.symm hne
    | nx G' =>
      rw [e] at hrun
      rw [← hrun] at h
      exact fun σ' H' Su' st' => h .non H' (same st'.ext) Rep.non
    | rt o d =>
      rw [e] at hrun
      rw [← hrun] at h
      refine fun v H' ex rv => h v H' (same ex) ?_
      cases o with
      | true =>
        obtain ⟨a, e1, e2, e3⟩ := rv
        exact ⟨a, e1, e2.elim (fun z => absurd z (no a)) id, e3⟩
      | false => exact rv
    | ex G' x fs =>
      rw [e] at hrun
      rw [← hrun] at h
      refine fun cls dd σ' H' Su' st' e' => h cls dd H' (same st'.ext) ?_
      obtain ⟨e1, e2⟩ := e'
      exact ⟨e1, e2.imp id fun ⟨d, vs, e3, nb, e4, e5⟩ => ⟨d, vs, e3, fun z => nb (.inl z), e4, e5.less fun b z => .inl z⟩⟩
theorem fok_mk {S : Stat} {n : Nat} {m : List RA.D → Rs (Bool × RA.D)} {f : Addr} {fd : FuncData} {ps : List Str} (h : FnOk P w K mg base (L2.CX P w) (S.k + 1) f fd ps (spOf { toOpT := O, P := P, w := w, K := K, mg := mg, base := base } m)) (k : PySem.W.keepIn K (.ref f) = true) (b : Binds K fd ps []) (hm : mg (S.nm n) = some (.ref f)) :
    FOk { toOpT := O, P := P, w := w, K := K, mg := mg, base := base } S.nm (S.k + 1) n m := ⟨f, fd, ps, hm, k, b, h⟩
end
theorem cx_end {P : Program} {w : World} {H : Hp} {s : Shared} {e : Value} {s' : Shared} (h : L2.CX P w [] H s (fun _ _ _ => False) e s') : False := by
  obtain ⟨_, _, _, _, _, _, _, _, _, _, _, _, z⟩ := h
  exact z
/-! facts, one after another -/
section
variable {O : OpT} {mg : Str → Option Value} {K : PySem.W.Frag} {c : Cfg} {nm : Nat → Str} {k : Nat} {f : FT}
theorem bs_nil : ∀ x : Str, ([] : List Str).contains x = true → mg x = none := fun x h => by simp at h
theorem bs_cons {y : Str} {l : List Str} (h : mg y = none) (r : ∀ x : Str, l.contains x = true → mg x = none) : ∀ x : Str, (y :: l).contains x = true → mg x = none := fun x hx => by
  rw [List.contains_cons, Bool.or_eq_true] at hx
  rcases hx with z | z
  · rw [eq_of_beq z]; exact h
  · exact r x z
theorem us_nil : ∀ n : Nat, ([] : List Nat).contains n = true → FOk c nm k n (f n) := fun x h => by simp at h
theorem us_cons {m : Nat} {l : List Nat} (h : FOk c nm k m (f m)) (r : ∀ n : Nat, l.contains n = true → FOk c nm k n (f n)) : ∀ n : Nat, (m :: l).contains n = true → FOk c nm k n (f n) := fun x hx => by
  rw [List.contains_cons, Bool.or_eq_true] at hx
  rcases hx with z | z
  · rw [eq_of_beq z]; exact h
  · exact r x z
theorem gs_nil : ∀ n : Nat, ([] : List Nat).contains n = true → GlOk c nm n (f n []) := fun x h => by simp at h
theorem ts_nil {S : Stat} : ∀ t, ([] : List XT).contains t = true → XtOk S c t := fun t h => by simp at h
theorem ts_cons {S : Stat} {u : XT} {l : List XT} (h : XtOk S c u) (r : ∀ t, l.contains t = true → XtOk S c t) : ∀ t, (u :: l).contains t = true → XtOk S c t := fun t ht => by
  rw [List.contains_cons, Bool.or_eq_true] at ht
  rcases ht with z | z
  · rw [eq_of_beq z]; exact h
  · exact r t z
theorem ys_nil {S : Stat} : ∀ t, ([] : List YT).contains t = true → YtOk S c t := fun t h => by simp at h
theorem tr_nil : ∀ y ys ns, ([] : List (Str × List Nat × List Nat)).contains (y, ys, ns) = true → TrOk K mg O y ys ns := fun y ys ns h => by simp at h
theorem xs_nil : ∀ X : Cx, X.K = K → X.mg = mg → ∀ n x, ([] : List (Nat × Str)).contains (n, x) = true → ExOk X O n x := fun _ _ _ n x h => by simp at h
theorem xs_cons {m : Nat} {y : Str} {l : List (Nat × Str)} (h : ∀ X : Cx, X.K = K → X.mg = mg → ExOk X O m y) (r : ∀ X : Cx, X.K = K → X.mg = mg → ∀ n x, l.contains (n, x) = true → ExOk X O n x) : ∀ X : Cx, X.K = K → X.mg = mg → ∀ n x, ((m, y) :: l).contains (n, x) = true → ExOk X O n x := fun X e1 e2 n x hx => by
  rw [List.contains_cons, Bool.or_eq_true] at hx
  rcases hx with z | z
  · have e := eq_of_beq z
    cases e; exact h X e1 e2
  · exact r X e1 e2 n x z
theorem ex_mk {n : Nat} {x : Str} (hm : mg x = some (.ref (O.ecls n))) (hx : PySem.W.excIn K (O.ecls n) [.type "ValueError", .type "Exception", .type "BaseException", .type "object"] "ValueError.__new__" = true) (hk : PySem.W.keepIn K (.ref (O.ecls n)) = true)
    (hs : PySem.W.subIn K (.ref (O.ecls n)) (.type "BaseException") = some true) (ht : PySem.W.typeIn K (.ref (O.ecls n)) = some (.type "type")) : ∀ X : Cx, X.K = K → X.mg = mg → ExOk X O n x := fun X e1 e2 => by
  subst e1 e2
  exact ⟨⟨_, _, _, _, PySem.F.excBase_ValueError, hx⟩, hm, hk, raises_own hs ht⟩
end
end RA
/-! RAY: further expressions: isinstance by own classes, fields of errors. -/
namespace RA
open PySem PySem.Spec PyProof.Rows L2
variable [Tabs]
theorem fnok_no {P : Program} {w : World} {K : PySem.W.Frag} {mg : Str → Option Value} {base : Heap} {CX : CXT} {k : Nat} {f : Addr} {fd : FuncData} {ps : List Str} {c : Cfg} : FnOk P w K mg base CX k f fd ps (spOf c fun _ => .no) :=
  ⟨fun _ _ _ _ ⟨_, _, _, _, _, z⟩ => z.elim, fun _ _ _ _ _ _ _ _ _ _ _ _ _ ⟨_, _, _, _, _, z⟩ => z.elim⟩
end RA
/-! RAE: errors with fields: their __init__, raise. -/
namespace RA
open PySem PySem.Spec PyProof.Rows L2
variable [Tabs]
/-! ### raise X(..), X with fields -/
/-- a def in a class -/
def inner (i : Nat) : Stmt → Stmt
  | .ClassDef _ _ _ body _ _ _ _ _ _ _ => body.getD i (.Pass ⟨0, 0, 0, 0⟩)
  | s => s
/-! ### x.f of an error -/
end RA
/-! RAR: list(range(n)), tuple(range(n)); x.clear(). -/
namespace RA
open PySem PySem.Spec PyProof.Rows L2
variable [Tabs]
/-! ### x + y, lists of one's own -/
theorem cat_dec {S : Stat} {sc : Scope} {e : Expr} {es : List Expr} (h : xtDec .cat S sc e = some es) : ∃ l r pos, e = .BinOp l .Add r pos ∧ es = [l, r] := by
  unfold xtDec at h
  split at h
  all_goals first | contradiction | (cases h; done) | skip
  cases h
  exact ⟨_, _, _, rfl, rfl⟩
/-- x + y for lists of any kind -/
def rCatL (K : PySem.W.Frag) : R2 := fun x y H Q => ∃ l b xs zs, x = .ref l ∧ y = .ref b ∧ SqL K H l xs ∧ SqL K H b zs ∧ xs.length + zs.length ≤ sizeLine ∧ ∀ p, H p = none → Q (.ref p) (upd H p (.lst (xs ++ zs)))
theorem op_catL {X : Cx} : OpR X (binaryOp .Add) (rCatL X.K) := by
  intro pins s σ H x y v u Q I rx ry h
  obtain ⟨l, b, xs, zs, rfl, rfl, hH, hB, hz, q⟩ := h
  cases rx
  cases ry
  obtain ⟨its, r, p, _⟩ := I.list hH
  obtain ⟨its2, r2, p2, _⟩ := I.list hB
  obtain ⟨⟨cls, dd, data, sl⟩, ho, hc, n, hd⟩ := p.isList
  obtain ⟨⟨cls2, dd2, data2, sl2⟩, ho2, hc2, n2, hd2⟩ := p2.isList
  simp only at hc hd hc2 hd2
  subst hc hd hc2 hd2
  have e : its.toArray ++ its2.toArray = (its ++ its2).toArray := by simp
  refine concat_meets ⟨_, ho, rfl⟩ ⟨_, ho2, rfl⟩ noFill_list_add seq_list_add PySem.F.slot_list_add PySem.F.entry_list_add (PySem.F.args_list_add_2 _ _) (list_addW l b its.toArray its2.toArray n n2 dd dd2 sl sl2 (by rw [List.size_toArray, List.size_toArray, ← r.length, ← r2.length]; exact hz)) ⟨ho, ho2, ?_⟩
  rw [e]
  exact ⟨.ref _, _, I.lnew (t' := s.toks) (r.append r2) (by rw [List.length_append]; exact hz), rfl, q _ I.fresh⟩
theorem any_lst {c : Cfg} {Z : Addr → Prop} {H0 H : Hp} {f : Fl} {ds : List RA.D} {v : V} (h : RepF c Z H0 H (f, .lst ds) v) : ∃ a vs, v = .ref a ∧ SqL c.K H a vs ∧ Reps c Z H ds vs := by
  cases f with
  | val =>
    have h2 : Rep c Z H (.lst ds) v := h
    clear h
    cases h2 with
    | lst hx hr => exact ⟨_, _, rfl, hx.sq, hr⟩
  | tmp =>
    obtain ⟨a, rfl, o⟩ := h
    cases o with
    | lst h r => exact ⟨a, _, rfl, .of h, r⟩
  | own =>
    obtain ⟨a, rfl, _, o⟩ := h
    cases o with
    | lst h r => exact ⟨a, _, rfl, .of h, r.less fun b z => .inl z⟩
theorem cat_ok {S : Stat} {c : Cfg} : XtOk S c .cat := by
  intro X O W sc B G e es as hc C hd hp
  subst hc
  obtain ⟨l, r, pos, rfl, rfl⟩ := cat_dec hd
  cases hp with
  | cons ok pe rest =>
    cases rest with
    | cons ok2 pe2 rest2 =>
      cases rest2
      rename_i x y
      refine (pe_op op_catL pe pe2).weak fun σ H Q hq => ?_
      simp only [evs] at hq
      have hq : tE (cfg X O) B W G ((ev S.F x G).bind fun a => (ev S.F y G).bind fun b => xtD S.F .cat [a, b]) σ H Q := by
        cases e1 : ev S.F x G with
        | no => rw [e1] at hq; exact hq
        | ex n fs => rw [e1] at hq; exact hq
        | ok a =>
          rw [e1] at hq
          cases e2 : ev S.F y G with
          | no => rw [e2] at hq; exact hq
          | ex n fs => rw [e2] at hq; exact hq
          | ok b => rw [e2] at hq; exact hq
      refine two_read hq fun a b x y H1 H2 ea eb s1 s2 Su zt ra rb R => ?_
      obtain ⟨fa, a⟩ := a
      obtain ⟨fb, b⟩ := b
      cases a with
      | lst xs =>
        cases b with
        | lst ys =>
          have R' : ResE (cfg X O) B (Zof B G σ) W σ H (if xs.length + ys.length ≤ 16777216 then .ok (.own, .lst (xs ++ ys)) else .no) Q := R
          split at R'
          · rename_i hj
            obtain ⟨p, vs, rfl, h1, r1⟩ := any_lst ra
            obtain ⟨q, ws, rfl, h2, r2⟩ := any_lst rb
            refine ⟨p, q, vs, ws, rfl, rfl, h1, h2, by rw [← r1.length, ← r2.length, sizeLine_eq]; omega, fun p' hp' => ?_⟩
            have n := newL (c := cfg X O) (Z := Zof B G σ) (s1.trans s2) hp' (Reps.app r1 r2)
            exact R' _ _ ((s1.trans s2).trans n.1) n.2
          · exact False.elim R'
        | _ => exact False.elim R
      | _ => exact False.elim R
/-! ### list(d.values()), keys tuples -/
/-! ### list(d), keys tuples -/
/-! ### x.clear() -/
end RA
/-! W0: the small language, stepped: loops. -/
namespace RA
open PySem PySem.Spec PyProof.Rows L2
/-- no tables: for laws whose texts hold no def within a def -/
instance (priority := low) tabs0 : Tabs := ⟨[]⟩
/-- turns enough for every while of the text -/
def FUEL : Nat := 1000000000
/-- a def's mirror: its text in the small language, run -/
def mk (np nn : Nat) (F : FT) (ir : IS) : List RA.D → Rs (Bool × RA.D) := fun ds => if ds.length = np then run F FUEL nn ir ds else .no
theorem mk_run {np nn : Nat} {F : FT} {ir : IS} : ∀ ds, mk np nn F ir ds ≠ .no → ds.length = np ∧ ∃ fuel, run F fuel nn ir ds = mk np nn F ir ds := fun ds h => by
  unfold mk at h ⊢
  split at h
  · rename_i e
    exact ⟨e, FUEL, by rw [if_pos e]⟩
  · exact absurd rfl h
theorem mk_eq {np nn : Nat} {F : FT} {ir : IS} {ds : List RA.D} (h : ds.length = np) : mk np nn F ir ds = run F FUEL nn ir ds := if_pos h
/-! ### stepping -/
def seqO (o : Out) (f : Ev → Out) : Out := match o with
  | .nx G => f G
  | o => o
def fin (o : Out) : Rs (Bool × RA.D) := match o with
  | .nx _ => .ok (false, .non)
  | .rt o d => .ok (o, d)
  | .ex _ c fs => .ex c fs
  | _ => .no
/-- what an end is to be -/
def Sat (o : Out) (Q : Out → Prop) : Prop := Q o
/-- the body has gone through -/
def Thru (P : Ev → Prop) (o : Out) : Prop := match o with
  | .nx G => P G
  | .ct G => P G
  | _ => False
/-- a slot's value; an own list's -/
def valO : Option (Option (Bool × RA.D)) → Rs (Fl × RA.D)
  | some (some (false, d)) => .ok (.val, d)
  | _ => .no
def pkO : Option (Option (Bool × RA.D)) → Rs (Fl × RA.D)
  | some (some (true, d)) => .ok (.tmp, d)
  | _ => .no
def glO : Rs (Bool × RA.D) → Rs (Fl × RA.D)
  | .ok (_, d) => .ok (.val, d)
  | _ => .no
def negO : RA.D → Rs (Fl × RA.D)
  | .int i => .ok (.val, .int (-i))
  | _ => .no
def walkO (a : Fl × RA.D) : Rs (List RA.D) := if a.1 = .tmp then .no else match itemsD a.2 with | some ds => .ok ds | none => .no
def rng1O : RA.D → Rs (List RA.D)
  | .int j => if smallI j = true then .ok (rangeD 0 j) else .no
  | _ => .no
def rng2O : RA.D → RA.D → Rs (List RA.D)
  | .int i, .int j => if (smallI i && smallI j) = true then .ok (rangeD i j) else .no
  | _, _ => .no
def zipI : Option (List RA.D) → Option (List RA.D) → Rs (List RA.D)
  | some ds, some es => .ok (zipD ds es)
  | _, _ => .no
def zipO (a b : Fl × RA.D) : Rs (List RA.D) := if a.1 = .tmp ∨ b.1 = .tmp then .no else zipI (itemsD a.2) (itemsD b.2)
def revO (a : Fl × RA.D) : Rs (List RA.D) := if a.1 = .tmp then .no else match a.2 with | .lst ds => .ok ds.reverse | _ => .no
def frzO (G : Ev) (i : Nat) : Option (Option (Bool × RA.D)) → Out
  | some (some (true, d)) => .nx (G.set i (some (false, d)))
  | _ => .no
def retO : Option (Option (Bool × RA.D)) → Out
  | some (some (true, d)) => .rt true d
  | _ => .no
def appO (G : Ev) (i : Nat) (r : Rs (Fl × RA.D)) : Option (Option (Bool × RA.D)) → Out
  | some (some (true, .lst xs)) => r.out G fun r => if r.1 ≠ .tmp ∧ xs.length < sizeLine then .nx (G.set i (some (true, .lst (xs ++ [r.2])))) else .no
  | _ => .no
def putO (G : Ev) (i : Nat) (r q : Rs (Fl × RA.D)) : Option (Option (Bool × RA.D)) → Out
  | some (some (true, .lst xs)) => r.out G fun r => q.out G fun q => (match q.2 with
      | .int j => (match ixN xs.length j with | some m => (if r.1 = .tmp then .no else .nx (G.set i (some (true, .lst (xs.set m r.2))))) | none => .no)
      | _ => .no)
  | some (some (true, .dct kvs)) => r.out G fun r => q.out G fun q => (if r.1 ≠ .tmp ∧ keysOk kvs q.2 = true ∧ kvs.length < sizeLine then .nx (G.set i (some (true, .dct (dPut kvs q.2 r.2)))) else .no)
  | _ => .no
def dct1O (a b : Fl × RA.D) : Rs (Fl × RA.D) := if (keysOk [] a.2 && decide (b.1 ≠ .tmp)) = true then .ok (.own, .dct [(a.2, b.2)]) else .no
def augO (G : Ev) (i : Nat) (op : Bop) (r : Rs (Fl × RA.D)) : Option (Option (Bool × RA.D)) → Out
  | some (some (false, .int x)) => r.out G fun r => (match r.2 with
      | .int y => (match op with | .add => .nx (G.set i (some (false, .int (x + y)))) | .sub => .nx (G.set i (some (false, .int (x - y)))) | _ => .no)
      | _ => .no)
  | _ => .no
def tstO (F : FT) (t : IE) : Ev → Rs Bool := fun G => asB (ev F t G)
def unpO (G : Ev) (is : List Nat) (r : Fl × RA.D) : Out := if r.1 = .tmp then .no else (match bindT (.tup is) r.2 G with | some G' => .nx G' | none => .no)
section
variable {F : FT} {n N : Nat} {G : Ev} {Q : Out → Prop}
@[simp] theorem seqO_nx {f : Ev → Out} : seqO (.nx G) f = f G := (rfl)
@[simp] theorem seqO_no {f : Ev → Out} : seqO .no f = .no := (rfl)
@[simp] theorem seqO_rt {f : Ev → Out} {o : Bool} {d : RA.D} : seqO (.rt o d) f = .rt o d := (rfl)
@[simp] theorem seqO_ex {f : Ev → Out} {c : Nat} {fs : List RA.D} : seqO (.ex G c fs) f = .ex G c fs := (rfl)
@[simp] theorem seqO_bk {f : Ev → Out} : seqO (.bk G) f = .bk G := (rfl)
@[simp] theorem seqO_ct {f : Ev → Out} : seqO (.ct G) f = .ct G := (rfl)
@[simp] theorem seqO_seqO {o : Out} {f g : Ev → Out} : seqO (seqO o f) g = seqO o fun G => seqO (f G) g := by cases o <;> rfl
@[simp] theorem seqO_ite {c : Prop} [Decidable c] {a b : Out} {f : Ev → Out} : seqO (if c then a else b) f = if c then seqO a f else seqO b f := by split <;> rfl
@[simp] theorem sat_nx : Sat (.nx G) (fun o => fin o = .ok (false, .non)) ↔ True := by simp [Sat, fin]
@[simp] theorem sat_rt {o : Bool} {d : RA.D} {r : Rs (Bool × RA.D)} : Sat (.rt o d) (fun o => fin o = r) ↔ .ok (o, d) = r := Iff.rfl
@[simp] theorem sat_ex {c : Nat} {fs : List RA.D} {r : Rs (Bool × RA.D)} : Sat (.ex G c fs) (fun o => fin o = r) ↔ .ex c fs = r := Iff.rfl
@[simp] theorem sat_thru {P : Ev → Prop} : Sat (.nx G) (Thru P) ↔ P G := Iff.rfl
@[simp] theorem sat_thru_ct {P : Ev → Prop} : Sat (.ct G) (Thru P) ↔ P G := Iff.rfl
theorem run_fin {nn : Nat} {ir : IS} {ds : List RA.D} : run F n nn ir ds = fin (exec F n ir (startG nn ds)) := by
  unfold run fin
  cases exec F n ir (startG nn ds) <;> rfl
theorem mk_fin {np nn : Nat} {ir : IS} {ds : List RA.D} (hl : ds.length = np) : mk np nn F ir ds = fin (exec F FUEL ir (startG nn ds)) := (mk_eq hl).trans run_fin
theorem mk_of {np nn : Nat} {ir : IS} {ds : List RA.D} {r : Rs (Bool × RA.D)} (hl : ds.length = np) (h : Sat (exec F FUEL ir (startG nn ds)) fun o => fin o = r) : mk np nn F ir ds = r := (mk_fin hl).trans h
@[simp] theorem x_nil : exec F n .nil G = .nx G := (rfl)
@[simp] theorem x_seq {s r : IS} : exec F n (.seq s r) G = seqO (exec F n s G) (exec F n r) := (rfl)
@[simp] theorem x_set {i : Nat} {e : IE} : exec F n (.set i e) G = (ev F e G).out G fun r => if r.1 = .tmp then .no else .nx (G.set i (some (false, r.2))) := (rfl)
@[simp] theorem x_own {i : Nat} {e : IE} : exec F n (.own i e) G = (ev F e G).out G fun r => if r.1 = .own then .nx (G.set i (some (true, r.2))) else .no := (rfl)
@[simp] theorem x_do {e : IE} : exec F n (.do_ e) G = (ev F e G).out G fun _ => .nx G := (rfl)
@[simp] theorem x_if {t : IE} {a b : IS} : exec F n (.if_ t a b) G = (asB (ev F t G)).out G (fun x => (if x = true then exec F n a else exec F n b) G) := by
  show Rs.out G _ _ = _
  congr 1
  funext x
  split <;> rfl
@[simp] theorem x_for {tg : Tg} {it : II} {b : IS} : exec F n (.for_ tg it b) G = (evI F it G).out G fun ds => loopF tg (exec F n b) ds G := (rfl)
@[simp] theorem x_whl {t : IE} {b : IS} : exec F n (.whl t b) G = loopW (tstO F t) (exec F n b) n G := (rfl)
@[simp] theorem x_ret {e : IE} : exec F n (.ret e) G = (ev F e G).out G fun r => if r.1 = .tmp then .no else .rt (decide (r.1 = .own)) r.2 := (rfl)
@[simp] theorem x_retN : exec F n .retN G = .rt false .non := (rfl)
@[simp] theorem x_pass : exec F n .pass G = .nx G := (rfl)
@[simp] theorem x_brk : exec F n .brk G = .bk G := (rfl)
@[simp] theorem x_cnt : exec F n .cnt G = .ct G := (rfl)
@[simp] theorem x_rse {c : Nat} {x : Str} : exec F n (.rse c x) G = .ex G c [] := (rfl)
@[simp] theorem x_fgt {is : List Nat} : exec F n (.fgt is) G = .nx (forget is G) := (rfl)
@[simp] theorem x_frz {i : Nat} : exec F n (.frz i) G = frzO G i G[i]? := (rfl)
@[simp] theorem x_retp {i : Nat} : exec F n (.retp i) G = retO G[i]? := (rfl)
@[simp] theorem x_app {i : Nat} {e : IE} : exec F n (.app i e) G = appO G i (ev F e G) G[i]? := (rfl)
@[simp] theorem x_aug {i : Nat} {op : Bop} {e : IE} : exec F n (.aug i op e) G = augO G i op (ev F e G) G[i]? := (rfl)
@[simp] theorem x_unp {is : List Nat} {e : IE} : exec F n (.unp is e) G = (ev F e G).out G (unpO G is) := (rfl)
@[simp] theorem x_put {i : Nat} {k e : IE} : exec F n (.put i k e) G = putO G i (ev F e G) (ev F k G) G[i]? := (rfl)
theorem put_dct {i : Nat} {kvs : List (RA.D × RA.D)} {f g : Fl} {k d : RA.D} (hk : keysOk kvs k = true) (hl : kvs.length < sizeLine) : putO G i (.ok (f, d)) (.ok (g, k)) (some (some (true, .dct kvs))) = if f = .tmp then .no else .nx (G.set i (some (true, .dct (dPut kvs k d)))) := by
  by_cases h : f = .tmp <;> simp [putO, hk, hl, h]
@[simp] theorem e_v {i : Nat} : ev F (.v i) G = valO G[i]? := (rfl)
@[simp] theorem e_pk {i : Nat} : ev F (.pk i) G = pkO G[i]? := (rfl)
@[simp] theorem e_k {d : RA.D} : ev F (.k d) G = .ok (.val, d) := (rfl)
@[simp] theorem e_gl {m : Nat} : ev F (.gl m) G = glO (F m []) := (rfl)
@[simp] theorem e_b {op : Bop} {x y : IE} : ev F (.b op x y) G = (ev F x G).bind fun a => (ev F y G).bind fun b => binD op a.2 b.2 := (rfl)
@[simp] theorem e_neg {x : IE} : ev F (.neg x) G = (ev F x G).bind fun a => negO a.2 := (rfl)
@[simp] theorem e_cmp {op : Cop} {x y : IE} : ev F (.cmp op x y) G = (ev F x G).bind fun a => (ev F y G).bind fun b => (cmpD op a.2 b.2).bind fun r => .ok (.val, .bl r) := (rfl)
@[simp] theorem e_and {x y : IE} : ev F (.and_ x y) G = (asB (ev F x G)).bind fun a => (if a = true then ev F y G else .ok (.val, .bl false)) := (rfl)
@[simp] theorem e_or {x y : IE} : ev F (.or_ x y) G = (asB (ev F x G)).bind fun a => (if a = true then .ok (.val, .bl true) else ev F y G) := (rfl)
@[simp] theorem e_not {x : IE} : ev F (.not_ x) G = (asB (ev F x G)).bind fun a => .ok (.val, .bl (!a)) := (rfl)
@[simp] theorem e_ife {t x y : IE} : ev F (.ife t x y) G = (asB (ev F t G)).bind fun a => (if a = true then ev F x G else ev F y G) := (rfl)
@[simp] theorem e_tup {as : IEs} : ev F (.tup as) G = (evs F as G).bind fun ds => (if keepOk ds = true ∧ ds.length ≤ 1000 then .ok (.val, .tup (ds.map (·.2))) else .no) := (rfl)
@[simp] theorem e_lst {as : IEs} : ev F (.lst as) G = (evs F as G).bind fun ds => (if keepOk ds = true ∧ ds.length ≤ 1000 then .ok (.own, .lst (ds.map (·.2))) else .no) := (rfl)
@[simp] theorem e_dct : ev F (.dct .nil .nil) G = .ok (.own, .dct []) := (rfl)
theorem putAll_one (a b : Fl × RA.D) : (match putAll [a] [b] [] with | some kvs => Rs.ok (Fl.own, RA.D.dct kvs) | none => .no) = dct1O a b := by
  unfold dct1O
  have e : putAll [a] [b] [] = if (keysOk [] a.2 && decide (b.1 ≠ .tmp)) = true then some [(a.2, b.2)] else none := rfl
  rw [e]
  by_cases h : (keysOk [] a.2 && decide (b.1 ≠ .tmp)) = true
  · rw [if_pos h, if_pos h]
  · rw [if_neg h, if_neg h]
@[simp] theorem e_dct1 {k v : IE} : ev F (.dct (.cons k .nil) (.cons v .nil)) G = (ev F k G).bind fun a => (ev F v G).bind fun b => dct1O a b := by
  simp only [ev, evs]
  cases ev F k G with
  | ok a => cases ev F v G with
    | ok b => exact putAll_one a b
    | _ => rfl
  | _ => rfl
@[simp] theorem e_lset {x : IE} : ev F (.lset x) G = (ev F x G).bind fun a => lsetD a.2 := (rfl)
@[simp] theorem e_ix {x i : IE} : ev F (.ix x i) G = (ev F x G).bind fun a => (ev F i G).bind fun b => (ixD a.2 b.2).bind fun d => .ok (.val, d) := (rfl)
@[simp] theorem e_sl {x lo hi : IE} : ev F (.sl x lo hi) G = (ev F x G).bind fun a => (prt (isOut lo) (ev F lo G)).bind fun l => (prt (isOut hi) (ev F hi G)).bind fun h => slD a.2 l h := (rfl)
@[simp] theorem e_rv {x : IE} : ev F (.rv x) G = (ev F x G).bind fun a => rvD a.2 := (rfl)
@[simp] theorem rv_lst {xs : List RA.D} : rvD (.lst xs) = .ok (.own, .lst xs.reverse) := (rfl)
@[simp] theorem rv_sign {s : List Nat} (hs : s.length ≤ sizeLine) : rvD (.str s) = .ok (.val, .str s.reverse) := if_pos hs
@[simp] theorem e_xt {t : XT} {as : IEs} : ev F (.xt t as) G = (evs F as G).bind (xtD F t) := (rfl)
@[simp] theorem isc_non {y : Str} {ys ns : List Nat} {f : Fl} : xtD F (.isc y ys ns) [(f, .non)] = .ok (.val, .bl false) := (rfl)
theorem isc_opq {y : Str} {ys ns : List Nat} {f : Fl} {k : Nat} {cs : List RA.D} : xtD F (.isc y ys ns) [(f, .opq k cs)] = if ys.contains k = true then .ok (.val, .bl true) else if ns.contains k = true then .ok (.val, .bl false) else .no := (rfl)
@[simp] theorem x_xs {t : YT} {as : IEs} : exec F n (.xs t as) G = (evs F as G).out G (ytD F t G) := (rfl)
@[simp] theorem x_try {b : IS} {y : Str} {ys ns : List Nat} {h : Hd} : exec F n (.try_ b y ys ns h) G = tryO ys ns h (exec F n b G) := (rfl)
@[simp] theorem tryO_nx {ys ns : List Nat} {h : Hd} : tryO ys ns h (.nx G) = .nx G := (rfl)
@[simp] theorem tryO_rt {ys ns : List Nat} {h : Hd} {o : Bool} {d : RA.D} : tryO ys ns h (.rt o d) = .rt o d := (rfl)
theorem tryO_ex {ys ns : List Nat} {h : Hd} {c : Nat} {fs : List RA.D} : tryO ys ns h (.ex G c fs) = if ys.contains c = true then .nx (hdG h c fs G) else if ns.contains c = true then .ex G c fs else .no := (rfl)
@[simp] theorem hdG_as {i j c : Nat} {fs : List RA.D} : hdG (.as i j) c fs G = ((G.set i (some (false, .opq c fs))).set j (some (false, .opq c fs))).set i none := (rfl)
@[simp] theorem hdG_cst {j c : Nat} {d : RA.D} {fs : List RA.D} : hdG (.cst j d) c fs G = G.set j (some (false, d)) := (rfl)
theorem isNon_non : isNon .non = true := (rfl)
theorem isNon_str {s : List Nat} : isNon (.str s) = false := (rfl)
theorem isNon_int {i : Int} : isNon (.int i) = false := (rfl)
theorem isNon_bl {i : Bool} : isNon (.bl i) = false := (rfl)
theorem isNon_tup {xs : List RA.D} : isNon (.tup xs) = false := (rfl)
theorem isNon_lst {xs : List RA.D} : isNon (.lst xs) = false := (rfl)
theorem isNon_opq {n : Nat} {xs : List RA.D} : isNon (.opq n xs) = false := (rfl)
theorem fin_nx : fin (.nx G) = .ok (false, .non) := (rfl)
theorem fin_rt {o : Bool} {d : RA.D} : fin (.rt o d) = .ok (o, d) := (rfl)
theorem fin_ex {c : Nat} {fs : List RA.D} : fin (.ex G c fs) = .ex c fs := (rfl)
@[simp] theorem e_out : ev F .out G = .ok (.val, .non) := (rfl)
@[simp] theorem e_bi {f : Bf} {as : IEs} : ev F (.bi f as) G = (evs F as G).bind fun ds => biD f (ds.map (·.2)) := (rfl)
@[simp] theorem e_me {m : Mf} {o : IE} {as : IEs} : ev F (.me m o as) G = (ev F o G).bind fun a => (if recvOk a.2 = true then (evs F as G).bind fun ds => meD m a.2 (ds.map (·.2)) else .no) := (rfl)
@[simp] theorem e_call {m : Nat} {as : IEs} : ev F (.call m as) G = (evs F as G).bind fun ds => (if keepOk ds = true then (F m (ds.map (·.2))).bind fun r => .ok (if r.1 = true then .own else .val, r.2) else (F m (ds.map (·.2))).quiet.bind fun r => if lendOk r = true then .ok (if r.1 = true then .own else .val, r.2) else .no) := (rfl)
@[simp] theorem e_comp {tg : Tg} {it : II} {t e : IE} : ev F (.comp tg it t e) G = (evI F it G).bind fun ds => (if (tgSlots tg).all (freeAt G) = true ∧ ds.length < sizeLine then ((compGo (tstO F t) (ev F e) tg (forget (tgSlots tg) G) ds).quiet).bind fun rs => .ok (.own, .lst rs) else .no) := (rfl)
@[simp] theorem es_nil : evs F .nil G = .ok [] := (rfl)
@[simp] theorem es_cons {x : IE} {as : IEs} : evs F (.cons x as) G = (ev F x G).bind fun a => (evs F as G).bind fun ds => .ok (a :: ds) := (rfl)
@[simp] theorem i_ex {x : IE} : evI F (.ex x) G = (ev F x G).bind walkO := (rfl)
@[simp] theorem i_rng1 {x : IE} : evI F (.rng1 x) G = (ev F x G).bind fun a => rng1O a.2 := (rfl)
@[simp] theorem i_rng2 {x y : IE} : evI F (.rng2 x y) G = (ev F x G).bind fun a => (ev F y G).bind fun b => rng2O a.2 b.2 := (rfl)
@[simp] theorem i_zip {x y : IE} : evI F (.zip2 x y) G = (ev F x G).bind fun a => (ev F y G).bind fun b => zipO a b := (rfl)
@[simp] theorem i_rev {x : IE} : evI F (.rev x) G = (ev F x G).bind revO := (rfl)
@[simp] theorem tstO_eq {t : IE} : tstO F t G = asB (ev F t G) := (rfl)
@[simp] theorem valO_ok {d : RA.D} : valO (some (some (false, d))) = .ok (.val, d) := (rfl)
@[simp] theorem pkO_ok {d : RA.D} : pkO (some (some (true, d))) = .ok (.tmp, d) := (rfl)
@[simp] theorem glO_ok {b : Bool} {d : RA.D} : glO (.ok (b, d)) = .ok (.val, d) := (rfl)
@[simp] theorem negO_ok {i : Int} : negO (.int i) = .ok (.val, .int (-i)) := (rfl)
@[simp] theorem frzO_ok {i : Nat} {d : RA.D} : frzO G i (some (some (true, d))) = .nx (G.set i (some (false, d))) := (rfl)
@[simp] theorem retO_ok {d : RA.D} : retO (some (some (true, d))) = .rt true d := (rfl)
@[simp] theorem augO_add {i : Nat} {f : Fl} {x y : Int} : augO G i .add (.ok (f, .int y)) (some (some (false, .int x))) = .nx (G.set i (some (false, .int (x + y)))) := (rfl)
@[simp] theorem augO_sub {i : Nat} {f : Fl} {x y : Int} : augO G i .sub (.ok (f, .int y)) (some (some (false, .int x))) = .nx (G.set i (some (false, .int (x - y)))) := (rfl)
@[simp] theorem appO_ok {i : Nat} {f : Fl} {d : RA.D} {xs : List RA.D} (hf : f ≠ .tmp) (hl : xs.length < sizeLine) : appO G i (.ok (f, d)) (some (some (true, .lst xs))) = .nx (G.set i (some (true, .lst (xs ++ [d])))) := if_pos ⟨hf, hl⟩
@[simp] theorem unpO_ok {is : List Nat} {ds : List RA.D} {f : Fl} (hf : f ≠ .tmp) (hl : is.length = ds.length) : unpO G is (f, .tup ds) = .nx (setAll is ds G) := by simp [unpO, hf, bindT, hl]
@[simp] theorem walkO_lst {f : Fl} {ds : List RA.D} (hf : f ≠ .tmp) : walkO (f, .lst ds) = .ok ds := by simp [walkO, hf, itemsD]
@[simp] theorem walkO_tup {f : Fl} {ds : List RA.D} (hf : f ≠ .tmp) : walkO (f, .tup ds) = .ok ds := by simp [walkO, hf, itemsD]
@[simp] theorem walkO_str {f : Fl} {s : List Nat} (hf : f ≠ .tmp) : walkO (f, .str s) = .ok (s.map fun ch => .str [ch]) := by simp [walkO, hf, itemsD]
@[simp] theorem rng1O_ok {j : Int} (h : smallI j = true) : rng1O (.int j) = .ok (rangeD 0 j) := if_pos h
@[simp] theorem rng2O_ok {i j : Int} (h : smallI i = true) (h2 : smallI j = true) : rng2O (.int i) (.int j) = .ok (rangeD i j) := if_pos (by rw [h, h2]; rfl)
@[simp] theorem zipO_ok {f g : Fl} {d e : RA.D} (hf : f ≠ .tmp) (hg : g ≠ .tmp) : zipO (f, d) (g, e) = zipI (itemsD d) (itemsD e) := by simp [zipO, hf, hg]
@[simp] theorem zipI_ok {ds es : List RA.D} : zipI (some ds) (some es) = .ok (zipD ds es) := (rfl)
@[simp] theorem revO_ok {f : Fl} {ds : List RA.D} (hf : f ≠ .tmp) : revO (f, .lst ds) = .ok ds.reverse := by simp [revO, hf]
theorem small_nat {k : Nat} (h : k < 4611686018427387904) : smallI k = true := by
  unfold smallI
  have e : (2 : Int) ^ 62 = 4611686018427387904 := by decide
  rw [e]
  exact decide_eq_true (by omega)
theorem small_int {k : Int} (h : 0 ≤ k) (h2 : k < 4611686018427387904) : smallI k = true := by
  unfold smallI
  have e : (2 : Int) ^ 62 = 4611686018427387904 := by decide
  rw [e]
  exact decide_eq_true (by omega)
theorem geta {α : Type} {xs : List α} {i : Nat} {d : α} (h : xs[i]? = some d) : atI xs (i : Int) = some d := atI_nat h
@[simp] theorem asB_ok {f : Fl} {b : Bool} : asB (.ok (f, .bl b)) = .ok b := (rfl)
@[simp] theorem items_lst {xs : List RA.D} : itemsD (.lst xs) = some xs := (rfl)
@[simp] theorem items_tup {xs : List RA.D} : itemsD (.tup xs) = some xs := (rfl)
@[simp] theorem items_str {s : List Nat} : itemsD (.str s) = some (s.map fun ch => .str [ch]) := (rfl)
@[simp] theorem bindT_one {i : Nat} {d : RA.D} : bindT (.one i) d G = some (G.set i (some (false, d))) := (rfl)
@[simp] theorem bindT_tup {is : List Nat} {ds : List RA.D} : bindT (.tup is) (.tup ds) G = if is.length = ds.length then some (setAll is ds G) else none := (rfl)
@[simp] theorem setAll_nil {ds : List RA.D} : setAll [] ds G = G := by simp [setAll]
@[simp] theorem setAll_cons {i : Nat} {is : List Nat} {d : RA.D} {ds : List RA.D} : setAll (i :: is) (d :: ds) G = setAll is ds (G.set i (some (false, d))) := (rfl)
@[simp] theorem forget_nil : forget [] G = G := (rfl)
@[simp] theorem forget_cons {i : Nat} {is : List Nat} : forget (i :: is) G = (forget is G).set i none := (rfl)
@[simp] theorem isOut_out : isOut .out = true := (rfl)
@[simp] theorem prt_int {b : Bool} {f : Fl} {i : Int} : prt b (.ok (f, .int i)) = .ok (some i) := (rfl)
@[simp] theorem prt_out {f : Fl} : prt true (.ok (f, .non)) = .ok none := (rfl)
@[simp] theorem keepOk_nil : keepOk [] = true := (rfl)
@[simp] theorem keepOk_cons {x : Fl × RA.D} {xs : List (Fl × RA.D)} : keepOk (x :: xs) = (decide (x.1 ≠ .tmp) && keepOk xs) := (rfl)
@[simp] theorem recv_str {s : List Nat} : recvOk (.str s) = true := (rfl)
@[simp] theorem b_add {i j : Int} : binD .add (.int i) (.int j) = .ok (.val, .int (i + j)) := (rfl)
@[simp] theorem b_sub {i j : Int} : binD .sub (.int i) (.int j) = .ok (.val, .int (i - j)) := (rfl)
theorem b_mul {i j : Int} (h : (-(2 ^ 64) < i ∧ i < 2 ^ 64) ∨ (-(2 ^ 64) < j ∧ j < 2 ^ 64)) : binD .mul (.int i) (.int j) = .ok (.val, .int (i * j)) := if_pos (decide_eq_true h)
theorem b_mulR {i j : Int} (h1 : 0 ≤ j) (h2 : j < 18446744073709551616) : binD .mul (.int i) (.int j) = .ok (.val, .int (i * j)) := b_mul (.inr (by omega))
theorem b_mulL {i j : Int} (h1 : 0 ≤ i) (h2 : i < 18446744073709551616) : binD .mul (.int i) (.int j) = .ok (.val, .int (i * j)) := b_mul (.inl (by omega))
@[simp] theorem b_fdiv {i j : Int} (h1 : 0 < j) (h2 : j < 1073741824) : binD .fdiv (.int i) (.int j) = .ok (.val, .int (i / j)) := if_pos ⟨h1, h2⟩
@[simp] theorem b_mod {i j : Int} (h1 : 0 < j) : binD .mod (.int i) (.int j) = .ok (.val, .int (i % j)) := if_pos h1
@[simp] theorem b_cat {s t : List Nat} (h : s.length + t.length ≤ sizeLine) : binD .add (.str s) (.str t) = .ok (.val, .str (s ++ t)) := if_pos h
theorem b_rep {s : List Nat} {j : Int} (h : 0 ≤ j ∧ s.length * j.toNat ≤ 1000000 ∧ j ≤ 1000000) : binD .mul (.str s) (.int j) = .ok (.val, .str (List.replicate j.toNat s).flatten) := if_pos h
@[simp] theorem c_lt {i j : Int} : cmpD .lt (.int i) (.int j) = .ok (decide (i < j)) := (rfl)
@[simp] theorem c_le {i j : Int} : cmpD .le (.int i) (.int j) = .ok (decide (i ≤ j)) := (rfl)
@[simp] theorem c_gt {i j : Int} : cmpD .gt (.int i) (.int j) = .ok (decide (j < i)) := (rfl)
@[simp] theorem c_ge {i j : Int} : cmpD .ge (.int i) (.int j) = .ok (decide (j ≤ i)) := (rfl)
@[simp] theorem c_ltS {i j : List Nat} : cmpD .lt (.str i) (.str j) = .ok (decide (i < j)) := (rfl)
@[simp] theorem c_gtS {i j : List Nat} : cmpD .gt (.str i) (.str j) = .ok (decide (j < i)) := (rfl)
@[simp] theorem c_eqI {i j : Int} : cmpD .eq (.int i) (.int j) = .ok (decide (i = j)) := (rfl)
@[simp] theorem c_neI {i j : Int} : cmpD .ne (.int i) (.int j) = .ok (!decide (i = j)) := (rfl)
@[simp] theorem c_eqS {i j : List Nat} : cmpD .eq (.str i) (.str j) = .ok (decide (i = j)) := (rfl)
@[simp] theorem c_neS {i j : List Nat} : cmpD .ne (.str i) (.str j) = .ok (!decide (i = j)) := (rfl)
@[simp] theorem c_eqB {i j : Bool} : cmpD .eq (.bl i) (.bl j) = .ok (decide (i = j)) := (rfl)
@[simp] theorem c_neB {i j : Bool} : cmpD .ne (.bl i) (.bl j) = .ok (!decide (i = j)) := (rfl)
@[simp] theorem c_isn {x : RA.D} : cmpD .isn x .non = .ok (isNon x) := by cases x <;> rfl
@[simp] theorem c_isnt {x : RA.D} : cmpD .isnt x .non = .ok (!isNon x) := by cases x <;> rfl
@[simp] theorem c_memS {ch : Nat} {s : List Nat} : cmpD .mem (.str [ch]) (.str s) = .ok (decide (ch ∈ s)) := (rfl)
@[simp] theorem c_nmemS {ch : Nat} {s : List Nat} : cmpD .nmem (.str [ch]) (.str s) = .ok (!decide (ch ∈ s)) := (rfl)
theorem c_nmemD {k : RA.D} {kvs : List (RA.D × RA.D)} (h : keysOk kvs k = true) : cmpD .nmem k (.dct kvs) = .ok (!(dGet kvs k).isSome) := by
  show (memD k (.dct kvs)).bind _ = _
  simp only [memD, h, if_true, Rs.bind_ok]
theorem ix_dct {k d : RA.D} {kvs : List (RA.D × RA.D)} (h : keysOk kvs k = true) (hd : dGet kvs k = some d) : ixD (.dct kvs) k = .ok d := by simp only [ixD, h, hd, if_true]
@[simp] theorem ix_lst {xs : List RA.D} {i : Int} {d : RA.D} (h : atI xs i = some d) : ixD (.lst xs) (.int i) = .ok d := by simp only [ixD, h]
@[simp] theorem ix_tup {xs : List RA.D} {i : Int} {d : RA.D} (h : atI xs i = some d) : ixD (.tup xs) (.int i) = .ok d := by simp only [ixD, h]
@[simp] theorem ix_sign {s : List Nat} {i : Int} {ch : Nat} (hs : s.length ≤ sizeLine) (h : atI s i = some ch) : ixD (.str s) (.int i) = .ok (.str [ch]) := by simp only [ixD, h, if_pos hs]
@[simp] theorem sl_lst {xs : List RA.D} {lo hi : Option Int} : slD (.lst xs) lo hi = .ok (.own, .lst (cutD xs lo hi)) := (rfl)
@[simp] theorem sl_sign {s : List Nat} {lo hi : Option Int} (hs : s.length ≤ sizeLine) : slD (.str s) lo hi = .ok (.val, .str (cutD s lo hi)) := if_pos hs
@[simp] theorem len_str {s : List Nat} (hs : s.length ≤ sizeLine) : biD .len [.str s] = .ok (.val, .int s.length) := if_pos hs
@[simp] theorem len_lst {xs : List RA.D} : biD .len [.lst xs] = .ok (.val, .int xs.length) := (rfl)
@[simp] theorem len_tup {xs : List RA.D} : biD .len [.tup xs] = .ok (.val, .int xs.length) := (rfl)
@[simp] theorem max_two {i j : Int} : biD .max [.int i, .int j] = .ok (.val, .int (if j > i then j else i)) := (rfl)
@[simp] theorem min_two {i j : Int} : biD .min [.int i, .int j] = .ok (.val, .int (if j < i then j else i)) := (rfl)
@[simp] theorem is_str {s : List Nat} : biD .isStr [.str s] = .ok (.val, .bl true) := (rfl)
@[simp] theorem is_intI {s : Int} : biD .isInt [.int s] = .ok (.val, .bl true) := (rfl)
@[simp] theorem is_boolI {s : Int} : biD .isBool [.int s] = .ok (.val, .bl false) := (rfl)
@[simp] theorem is_boolB {s : Bool} : biD .isBool [.bl s] = .ok (.val, .bl true) := (rfl)
@[simp] theorem tuple_lst {xs : List RA.D} : biD .tuple [.lst xs] = .ok (.val, .tup xs) := (rfl)
@[simp] theorem list_lst {xs : List RA.D} : biD .list [.lst xs] = .ok (.own, .lst xs) := (rfl)
@[simp] theorem list_tup {xs : List RA.D} : biD .list [.tup xs] = .ok (.own, .lst xs) := (rfl)
@[simp] theorem find_one {s : List Nat} {ch : Nat} : meD .find (.str s) [.str [ch]] = .ok (.val, .int (findL s ch)) := (rfl)
end
/-- it goes on to the next, in a state of which P tells -/
def Nxt (P : Ev → Prop) (o : Out) : Prop := match o with
  | .nx G => P G
  | _ => False
@[simp] theorem sat_nxt {P : Ev → Prop} {G : Ev} : Sat (.nx G) (Nxt P) ↔ P G := Iff.rfl
/-- a while with a measure -/
theorem for_ix {tg : Tg} {b : Ev → Out} {f : Ev → Out} {Q : Out → Prop} {ds : List RA.D} {G : Ev} (Inv : Nat → Ev → Prop) (i0 : Inv 0 G)
    (h : ∀ i d G, ds[i]? = some d → Inv i G → ∃ G', bindT tg d G = some G' ∧ Sat (b G') (Thru (Inv (i + 1)))) (k : ∀ G', Inv ds.length G' → Sat (f G') Q) : Sat (seqO (loopF tg b ds G) f) Q := by
  have key : ∀ (rest : List RA.D) (i : Nat) (G : Ev), ds.drop i = rest → Inv i G → i + rest.length = ds.length → ∃ G', loopF tg b rest G = .nx G' ∧ Inv ds.length G' := by
    intro rest
    induction rest with
    | nil => intro i G e hi hl; exact ⟨G, rfl, by rw [← hl]; exact hi⟩
    | cons d rest ih =>
      intro i G e hi hl
      have hd : ds[i]? = some d := by rw [← List.head?_drop, e]; rfl
      obtain ⟨G', h1, h2⟩ := h i d G hd hi
      have e' : ds.drop (i + 1) = rest := by rw [← List.drop_drop, e]; rfl
      have hl' : i + 1 + rest.length = ds.length := by rw [← hl, List.length_cons]; omega
      cases eb : b G' with
      | nx G2 =>
        rw [eb] at h2
        obtain ⟨G3, h4, h5⟩ := ih (i + 1) G2 e' h2 hl'
        exact ⟨G3, by unfold loopF; rw [h1]; dsimp only; rw [eb]; exact h4, h5⟩
      | ct G2 =>
        rw [eb] at h2
        obtain ⟨G3, h4, h5⟩ := ih (i + 1) G2 e' h2 hl'
        exact ⟨G3, by unfold loopF; rw [h1]; dsimp only; rw [eb]; exact h4, h5⟩
      | _ => rw [eb] at h2; exact False.elim h2
  obtain ⟨G', h1, h2⟩ := key ds 0 G rfl i0 (by simp)
  rw [h1]
  exact k G' h2
/-- one turn: it goes on, or it is the end -/
def Turn1 (P : Ev → Prop) (Q : Out → Prop) (o : Out) : Prop := match o with
  | .nx G => P G
  | .ct G => P G
  | .rt b d => Q (.rt b d)
  | .ex G c fs => Q (.ex G c fs)
  | _ => False
@[simp] theorem sat_t1 {P : Ev → Prop} {Q : Out → Prop} {G : Ev} : Sat (.nx G) (Turn1 P Q) ↔ P G := Iff.rfl
@[simp] theorem sat_t1c {P : Ev → Prop} {Q : Out → Prop} {G : Ev} : Sat (.ct G) (Turn1 P Q) ↔ P G := Iff.rfl
@[simp] theorem sat_t1r {P : Ev → Prop} {Q : Out → Prop} {b : Bool} {d : RA.D} : Sat (.rt b d) (Turn1 P Q) ↔ Q (.rt b d) := Iff.rfl
@[simp] theorem sat_t1e {P : Ev → Prop} {Q : Out → Prop} {G : Ev} {c : Nat} {fs : List RA.D} : Sat (.ex G c fs) (Turn1 P Q) ↔ Q (.ex G c fs) := Iff.rfl
theorem range_get {lo hi : Int} {i : Nat} {d : RA.D} (h : (rangeD lo hi)[i]? = some d) : d = .int (lo + i) ∧ (i : Int) < hi - lo := by
  unfold rangeD at h
  rw [List.getElem?_map] at h
  cases e : (List.range (hi - lo).toNat)[i]? with
  | none => rw [e] at h; cases h
  | some j =>
    rw [e] at h
    obtain ⟨h1, h2⟩ := List.getElem?_eq_some_iff.mp e
    rw [List.getElem_range] at h2
    rw [List.length_range] at h1
    subst h2
    exact ⟨(Option.some.inj h).symm, by omega⟩
theorem range_len {lo hi : Int} : (rangeD lo hi).length = (hi - lo).toNat := by unfold rangeD; rw [List.length_map, List.length_range]
theorem map_get {α : Type} {xs : List α} {f : α → RA.D} {i : Nat} {d : RA.D} (h : (xs.map f)[i]? = some d) : ∃ x, xs[i]? = some x ∧ d = f x := by
  rw [List.getElem?_map] at h
  cases e : xs[i]? with
  | none => rw [e] at h; cases h
  | some x => rw [e] at h; exact ⟨x, rfl, (Option.some.inj h).symm⟩
theorem cut_to {α : Type} {xs : List α} {k : Nat} : cutD xs none (some (k : Int)) = xs.take k := by
  unfold cutD
  rw [HT.sIx_none, HT.sIx_nat, List.drop_zero, Nat.sub_zero]
  by_cases h : k ≤ xs.length
  · rw [Nat.min_eq_left h]
  · rw [Nat.min_eq_right (by omega), List.take_length, List.take_of_length_le (by omega)]
theorem cut_from {α : Type} {xs : List α} {k : Nat} : cutD xs (some (k : Int)) none = xs.drop k := by
  unfold cutD
  rw [HT.sIx_none, HT.sIx_nat]
  by_cases h : k ≤ xs.length
  · rw [Nat.min_eq_left h, List.take_of_length_le (by rw [List.length_drop]; exact Nat.le_refl _)]
  · rw [Nat.min_eq_right (by omega), List.drop_length, List.drop_of_length_le (by omega)]; simp
theorem cut_mid {α : Type} {xs : List α} {a b : Nat} : cutD xs (some (a : Int)) (some (b : Int)) = (xs.drop a).take (b - a) := by
  unfold cutD
  rw [HT.sIx_nat, HT.sIx_nat]
  by_cases h : a ≤ xs.length
  · rw [Nat.min_eq_left h]
    by_cases h2 : b ≤ xs.length
    · rw [Nat.min_eq_left h2]
    · rw [Nat.min_eq_right (by omega), List.take_of_length_le (by rw [List.length_drop]; exact Nat.le_refl _), List.take_of_length_le (by rw [List.length_drop]; omega)]
  · have e : min a xs.length = xs.length := by omega
    rw [e, List.drop_length, List.drop_of_length_le (by omega)]; simp
/-! ### dicts by their keys -/
def kv {α : Type} (f : α → RA.D) (l : List (α × RA.D)) : List (RA.D × RA.D) := l.map fun p => (f p.1, p.2)
structure KeyF {α : Type} [DecidableEq α] (f : α → RA.D) : Prop where
  eq : ∀ a b, keyEq (f a) (f b) = decide (a = b)
  ok : ∀ l a, keysOk (kv f l) (f a) = true
  len : ∀ l, biD .len [.dct (kv f l)] = .ok (.val, .int l.length)
/-- what stands for a -/
def lk {α : Type} [DecidableEq α] (l : List (α × RA.D)) (a : α) : Option RA.D := (l.find? fun p => decide (p.1 = a)).map (·.2)
section
variable {α : Type} [DecidableEq α] {f : α → RA.D}
theorem kv_app {l m : List (α × RA.D)} : kv f (l ++ m) = kv f l ++ kv f m := List.map_append
theorem kv_len {l : List (α × RA.D)} : (kv f l).length = l.length := List.length_map ..
theorem kv_get (K : KeyF f) (a : α) : ∀ l : List (α × RA.D), dGet (kv f l) (f a) = lk l a
  | [] => rfl
  | (b, d) :: l => by
    have ih := kv_get K a l
    unfold dGet lk kv at ih ⊢
    rw [List.map_cons, List.find?_cons, List.find?_cons]
    dsimp only
    rw [K.eq]
    cases decide (b = a) with
    | true => rfl
    | false => exact ih
theorem lk_none {l : List (α × RA.D)} {a : α} (h : a ∉ l.map (·.1)) : lk l a = none := by
  unfold lk
  rw [List.find?_eq_none.mpr]; rfl
  intro x hx e
  exact h (List.mem_map.mpr ⟨x, hx, of_decide_eq_true e⟩)
theorem lk_some {l : List (α × RA.D)} {a : α} (h : a ∈ l.map (·.1)) : ∃ d, lk l a = some d ∧ (a, d) ∈ l := by
  unfold lk
  cases e : l.find? fun p => decide (p.1 = a) with
  | none =>
    obtain ⟨x, hx, rfl⟩ := List.mem_map.mp h
    exact absurd (decide_eq_true rfl) (List.find?_eq_none.mp e x hx)
  | some x =>
    have h1 := List.find?_some e
    have h2 := List.mem_of_find?_eq_some e
    refine ⟨x.2, rfl, ?_⟩
    have : x.1 = a := of_decide_eq_true h1
    rw [← this]; exact h2
theorem lk_isSome {l : List (α × RA.D)} {a : α} : (lk l a).isSome = decide (a ∈ l.map (·.1)) := by
  by_cases h : a ∈ l.map (·.1)
  · obtain ⟨d, e, _⟩ := lk_some h
    rw [e, decide_eq_true h]; rfl
  · rw [lk_none h, decide_eq_false h]; rfl
theorem kv_put (K : KeyF f) {a : α} {l : List (α × RA.D)} (h : a ∉ l.map (·.1)) (v : RA.D) : dPut (kv f l) (f a) v = kv f (l ++ [(a, v)]) := by
  have e : ((kv f l).any fun x => keyEq x.1 (f a)) = false := by
    rw [List.any_eq_false]
    intro x hx
    obtain ⟨p, hp, rfl⟩ := List.mem_map.mp hx
    rw [K.eq]
    intro z
    exact h (List.mem_map.mpr ⟨p, hp, of_decide_eq_true z⟩)
  unfold dPut
  rw [e, if_neg Bool.false_ne_true, kv_app]; rfl
theorem kv_nmem (K : KeyF f) {l : List (α × RA.D)} {a : α} : cmpD .nmem (f a) (.dct (kv f l)) = .ok (!decide (a ∈ l.map (·.1))) := by rw [c_nmemD (K.ok l a), kv_get K, lk_isSome]
theorem kv_ix (K : KeyF f) {l : List (α × RA.D)} {a : α} {d : RA.D} (h : lk l a = some d) : ixD (.dct (kv f l)) (f a) = .ok d := ix_dct (K.ok l a) (by rw [kv_get K, h])
theorem kv_putO (K : KeyF f) {G : Ev} {i : Nat} {l : List (α × RA.D)} {x g : Fl} {a : α} {d : RA.D} (hl : l.length < sizeLine) (h : a ∉ l.map (·.1)) : putO G i (.ok (x, d)) (.ok (g, f a)) (some (some (true, .dct (kv f l)))) = if x = .tmp then .no else .nx (G.set i (some (true, .dct (kv f (l ++ [(a, d)]))))) := by
  rw [put_dct (K.ok l a) (by rw [kv_len]; exact hl), kv_put K h]
theorem kv_one (K : KeyF f) {a : α} {g x : Fl} {d : RA.D} : dct1O (g, f a) (x, d) = if x = .tmp then .no else .ok (.own, .dct (kv f [(a, d)])) := by
  have := K.ok [] a
  unfold dct1O
  rw [show keysOk [] (f a) = true from this]
  cases x <;> rfl
end
theorem leafF {α : Type} [DecidableEq α] {f : α → RA.D} (h : ∀ a, leafy (f a) = true) (e : ∀ a b, keyEq (f a) (f b) = decide (a = b)) (b : ∀ a b, isBl (f a) = isBl (f b)) : KeyF f := by
  have al : ∀ l : List (α × RA.D), ((kv f l).all fun x => leafy x.1) = true := fun l => by
    rw [List.all_eq_true]
    intro x hx
    obtain ⟨p, _, rfl⟩ := List.mem_map.mp hx
    exact h _
  have al2 : ∀ (l : List (α × RA.D)) (a : α), ((kv f l).all fun x => leafy x.1 && (isBl x.1 == isBl (f a))) = true := fun l a => by
    rw [List.all_eq_true]
    intro x hx
    obtain ⟨p, _, rfl⟩ := List.mem_map.mp hx
    rw [show leafy (f p.1, p.2).1 = true from h _, show isBl (f p.1, p.2).1 = isBl (f a) from b _ _, beq_self_eq_true]; rfl
  refine ⟨e, fun l a => ?_, fun l => ?_⟩
  · unfold keysOk keysL
    rw [h, al2]; rfl
  · show (if _ then _ else _) = _
    rw [if_pos (by rw [al l]; rfl), kv_len]
theorem keyI {α : Type} [DecidableEq α] {g : α → Int} (h : ∀ a b, g a = g b → a = b) : KeyF fun a => RA.D.int (g a) := by
  refine leafF (fun a => rfl) (fun a b => ?_) (fun a b => rfl)
  unfold keyEq
  by_cases q : a = b
  · subst q; simp
  · have : ¬ g a = g b := fun z => q (h a b z)
    simp [keyD, q, this]
theorem keyN : KeyF fun n : Nat => RA.D.int (n : Int) := keyI fun a b h => by omega
theorem keyB : KeyF RA.D.bl := by
  refine leafF (fun a => rfl) (fun a b => ?_) (fun a b => rfl)
  cases a <;> cases b <;> rfl
theorem keyS : KeyF RA.D.str := by
  refine leafF (fun a => rfl) (fun a b => ?_) (fun a b => rfl)
  unfold keyEq
  by_cases q : a = b
  · subst q; simp
  · simp [keyD, q]
end RA
/-! W1: words. -/
namespace RA
open PySem PySem.Spec PyProof.Rows L2
theorem line_big {n : Nat} (h : n ≤ 16777216) : n ≤ sizeLine := by rw [sizeLine_eq]; omega
theorem line_lt {n : Nat} (h : n ≤ 16777215) : n < sizeLine := by rw [sizeLine_eq]; omega
def m_LONGEST : List RA.D → Rs (Bool × RA.D) := fun ds => if ds.length = 0 then .ok (false, .int 200) else .no
/- 5 _law_letters(_law_cell); slots: 0=_law_cell 1=_law_left 2=_law_number_here 3=_law_many 4=_law_found 5=_law_k 6=_law_at; calls:  -/
/- 6 _law_cell_at(_law_script, _law_k); slots: 0=_law_script 1=_law_k; calls:  -/
def i_law_cell_at : IS := (.seq (.if_ (.cmp .lt (.v 1) (.bi .len (.cons (.v 0) .nil))) (.seq (.ret (.ix (.v 0) (.v 1))) .nil) .nil) (.seq (.ret (.k (.int 0))) .nil))
def f_law_cell_at : FT := fun _ _ => .no
def m_law_cell_at : List RA.D → Rs (Bool × RA.D) := mk 2 2 f_law_cell_at i_law_cell_at
/- 7 _law_shorter(_law_many, _law_size); slots: 0=_law_many 1=_law_size 2=_law_found 3=_law_power 4=_law_k; calls:  -/
def i_law_shorter : IS := (.seq (.set 2 (.k (.int 0))) (.seq (.set 3 (.k (.int 1))) (.seq (.for_ (.one 4) (.rng1 (.v 1)) (.seq (.set 2 (.b .add (.v 2) (.v 3))) (.seq (.set 3 (.b .mul (.v 3) (.v 0))) .nil))) (.seq (.ret (.v 2)) .nil))))
def f_law_shorter : FT := fun _ _ => .no
def m_law_shorter : List RA.D → Rs (Bool × RA.D) := mk 2 5 f_law_shorter i_law_shorter
/- 8 _law_drawn(_law_script, _law_many); slots: 0=_law_script 1=_law_many 2=_law_last 3=_law_way 4=_law_cell 5=_law_number_here 6=_law_one; calls: 6=law_cell_at 7=law_shorter -/
def f_law_drawn : FT := fun n ds => match n, ds with | 6, ds => m_law_cell_at ds | 7, ds => m_law_shorter ds | _, _ => .no
@[simp] theorem f_law_drawn_6 (ds : List RA.D) : f_law_drawn 6 ds = m_law_cell_at ds := (rfl)
@[simp] theorem f_law_drawn_7 (ds : List RA.D) : f_law_drawn 7 ds = m_law_shorter ds := (rfl)
/- 9 check_letters(letters); slots: 0=letters 1=k; calls:  -/
def i_check_letters : IS := (.seq (.if_ (.or_ (.cmp .lt (.bi .len (.cons (.v 0) .nil)) (.k (.int 1))) (.cmp .gt (.bi .len (.cons (.v 0) .nil)) (.k (.int 3)))) (.seq (.rse 2 "NoLetters") .nil) .nil) (.seq (.for_ (.one 1) (.rng1 (.bi .len (.cons (.v 0) .nil))) (.seq (.if_ (.or_ (.cmp .lt (.ix (.v 0) (.v 1)) (.k (.str [97]))) (.or_ (.cmp .gt (.ix (.v 0) (.v 1)) (.k (.str [122]))) (.cmp .mem (.ix (.v 0) (.v 1)) (.sl (.v 0) .out (.v 1))))) (.seq (.rse 2 "NoLetters") .nil) .nil) .nil)) .nil))
def f_check_letters : FT := fun _ _ => .no
def m_check_letters : List RA.D → Rs (Bool × RA.D) := mk 1 2 f_check_letters i_check_letters
/- 10 word_of(letters, number); slots: 0=letters 1=number 2=word; calls: 9=check_letters 0=LONGEST -/
def f_word_of : FT := fun n ds => match n, ds with | 9, ds => m_check_letters ds | 0, ds => m_LONGEST ds | _, _ => .no
@[simp] theorem f_word_of_9 (ds : List RA.D) : f_word_of 9 ds = m_check_letters ds := (rfl)
@[simp] theorem f_word_of_0 (ds : List RA.D) : f_word_of 0 ds = m_LONGEST ds := (rfl)
/- 11 check_word(letters, word); slots: 0=letters 1=word 2=sign; calls:  -/
def i_check_word : IS := (.seq (.for_ (.one 2) (.ex (.v 1)) (.seq (.if_ (.cmp .nmem (.v 2) (.v 0)) (.seq (.rse 3 "NoWord") .nil) .nil) .nil)) .nil)
def f_check_word : FT := fun _ _ => .no
def m_check_word : List RA.D → Rs (Bool × RA.D) := mk 2 3 f_check_word i_check_word
/- 12 number_of(letters, word); slots: 0=letters 1=word 2=number 3=sign; calls: 9=check_letters 11=check_word -/
def f_number_of : FT := fun n ds => match n, ds with | 9, ds => m_check_letters ds | 11, ds => m_check_word ds | _, _ => .no
@[simp] theorem f_number_of_9 (ds : List RA.D) : f_number_of 9 ds = m_check_letters ds := (rfl)
@[simp] theorem f_number_of_11 (ds : List RA.D) : f_number_of 11 ds = m_check_word ds := (rfl)
/- 13 _law_word(_law_letters_here, _law_cells); slots: 0=_law_letters_here 1=_law_cells 2=_law_cell; calls:  -/
def i_law_word : IS := (.seq (.ret (.me .join (.k (.str [])) (.cons (.comp (.one 2) (.ex (.v 1)) (.k (.bl true)) (.ix (.v 0) (.b .mod (.v 2) (.bi .len (.cons (.v 0) .nil))))) .nil))) .nil)
def f_law_word : FT := fun _ _ => .no
def m_law_word : List RA.D → Rs (Bool × RA.D) := mk 2 3 f_law_word i_law_word
/- 14 _law_number(_law_letters_here, _law_word_here); slots: 0=_law_letters_here 1=_law_word_here 2=_law_shorter_here 3=_law_power 4=_law_ahead 5=_law_sign; calls:  -/
/- 15 _law_is_word(_law_found, _law_letters_here); slots: 0=_law_found 1=_law_letters_here 2=_law_sign; calls:  -/
def i_law_is_word : IS := (.seq (.ret (.and_ (.bi .isStr (.cons (.v 0) .nil)) (.cmp .eq (.bi .len (.cons (.comp (.one 2) (.ex (.v 0)) (.cmp .nmem (.v 2) (.v 1)) (.v 2)) .nil)) (.k (.int 0))))) .nil)
def f_law_is_word : FT := fun _ _ => .no
def m_law_is_word : List RA.D → Rs (Bool × RA.D) := mk 2 3 f_law_is_word i_law_is_word
/- 16 _law_whole(_law_found); slots: 0=_law_found; calls:  -/
/-! ### cells -/
theorem cell_at_ok (ns : List Int) (k : Nat) : m_law_cell_at [.lst (ns.map .int), .int k] = .ok (false, .int (ns.getD k 0)) := by
  refine mk_of rfl ?_
  unfold i_law_cell_at
  by_cases h : k < ns.length
  · have e : atI (ns.map RA.D.int) (k : Int) = some (.int ns[k]) := geta (by simp [h])
    simp [startG, h, e]
  · simp [startG, h]
/-! ### how many words are shorter -/
def geo (n : Int) : Nat → Int
  | 0 => 0
  | k + 1 => geo n k + n ^ k
/-! ### letters -/
structure Ltrs (s : List Nat) : Prop where
  pos : 1 ≤ s.length
  le : s.length ≤ 3
  nd : s.Nodup
  az : ∀ c ∈ s, 97 ≤ c ∧ c ≤ 122
theorem cut_perm {l : List Nat} {a : Nat} (h : a < l.length) : (l[a] :: (l.take a ++ l.drop (a + 1))).Perm l := by
  have e : l.take a ++ l[a] :: l.drop (a + 1) = l := by rw [← List.drop_eq_getElem_cons h, List.take_append_drop]
  have p : (l.take a ++ l[a] :: l.drop (a + 1)).Perm (l[a] :: (l.take a ++ l.drop (a + 1))) := List.perm_middle
  rw [e] at p
  exact p.symm
/-! ### the checks -/
/-- of these letters -/
def Ov (s w : List Nat) : Prop := ∀ c ∈ w, c ∈ s
/-! ### numbers of words -/
/-- a word's number -/
def bij (s : List Nat) : List Nat → Int
  | [] => 0
  | c :: w => (findL s c + 1) * (s.length : Int) ^ w.length + bij s w
theorem find_in {s : List Nat} {c : Nat} (h : c ∈ s) : ∃ i : Nat, findL s c = i ∧ i < s.length ∧ s[i]? = some c := by
  unfold findL
  cases e : s.findIdx? (· == c) with
  | none =>
    rw [List.findIdx?_eq_none_iff] at e
    exact absurd (e c h) (by simp)
  | some i =>
    obtain ⟨h1, h2, _⟩ := List.findIdx?_eq_some_iff_getElem.mp e
    exact ⟨i, rfl, h1, by rw [List.getElem?_eq_getElem h1]; exact congrArg some (eq_of_beq h2)⟩
theorem take_snoc {α : Type} {l : List α} {i : Nat} {x : α} (h : l[i]? = some x) : l.take (i + 1) = l.take i ++ [x] := by
  rw [List.take_add_one, h]; rfl
/-! ### is it a word -/
theorem comp_filter {t : Ev → Rs Bool} {e : Ev → Rs (Fl × RA.D)} {tg : Tg} {G : Ev} (p : RA.D → Bool) (v : RA.D → RA.D) : ∀ (ds : List RA.D), (∀ d ∈ ds, ∃ G', bindT tg d G = some G' ∧ t G' = .ok (p d) ∧ (p d = true → ∃ f, f ≠ Fl.tmp ∧ e G' = .ok (f, v d))) → compGo t e tg G ds = .ok ((ds.filter p).map v)
  | [], _ => rfl
  | d :: ds, h => by
    obtain ⟨G', h1, h2, h3⟩ := h d List.mem_cons_self
    have ih := comp_filter p v ds fun d hd => h d (List.mem_cons_of_mem _ hd)
    unfold compGo
    rw [h1]
    dsimp only
    rw [h2, Rs.bind_ok]
    cases e : p d with
    | false => rw [if_neg Bool.false_ne_true, ih, List.filter_cons, e, if_neg Bool.false_ne_true]
    | true =>
      obtain ⟨f, hf, h4⟩ := h3 e
      rw [if_pos rfl, h4, Rs.bind_ok, if_neg hf, ih, Rs.bind_ok, List.filter_cons, e, if_pos rfl, List.map_cons]
theorem comp_map {t : Ev → Rs Bool} {e : Ev → Rs (Fl × RA.D)} {tg : Tg} {G : Ev} (v : RA.D → RA.D) (ds : List RA.D) (h : ∀ d ∈ ds, ∃ G', bindT tg d G = some G' ∧ t G' = .ok true ∧ ∃ f, f ≠ Fl.tmp ∧ e G' = .ok (f, v d)) : compGo t e tg G ds = .ok (ds.map v) := by
  rw [comp_filter (fun _ => true) v ds fun d hd => let ⟨G', h1, h2, h3⟩ := h d hd; ⟨G', h1, h2, fun _ => h3⟩, List.filter_eq_self.mpr fun _ _ => rfl]
theorem quiet_ok {α : Type} {a : α} : (Rs.ok a).quiet = .ok a := rfl
theorem is_word_ok {s w : List Nat} (hw : Ov s w) (hl : w.length ≤ 100000) : m_law_is_word [.str w, .str s] = .ok (false, .bl true) := by
  refine mk_of rfl ?_
  unfold i_law_is_word
  have e1 : compGo (tstO f_law_is_word (.cmp .nmem (.v 2) (.v 1))) (ev f_law_is_word (.v 2)) (.one 2) [some (false, .str w), some (false, .str s), none] (w.map fun ch => .str [ch]) = .ok [] := by
    rw [comp_filter (fun _ => false) id]
    · rw [List.filter_eq_nil_iff.mpr fun _ _ => Bool.false_ne_true]; rfl
    · intro d hd
      obtain ⟨c, hc, rfl⟩ := List.mem_map.mp hd
      exact ⟨_, rfl, by simp only [tstO_eq, x_seq, x_set, x_own, x_do, x_if, x_for, x_whl, x_ret, x_retN, x_pass, x_brk, x_cnt, x_rse, x_fgt, x_frz, x_retp, x_app, x_aug, x_unp, x_put, e_v, e_pk, e_k, e_gl, e_b, e_neg, e_cmp, e_and, e_or, e_not, e_ife, e_tup, e_lst, e_dct, e_dct1, e_lset, e_ix, e_sl, e_rv, rv_lst, e_out, e_bi, e_me, e_call, e_comp, es_nil, es_cons, i_ex, i_rng1, i_rng2, i_zip, i_rev, valO_ok, pkO_ok, glO_ok, negO_ok, frzO_ok, retO_ok, augO_add, augO_sub, appO_ok, unpO_ok, walkO_lst, walkO_tup, walkO_str, rng1O_ok, rng2O_ok, zipO_ok, zipI_ok, revO_ok, asB_ok, items_lst, items_tup, items_str, bindT_one, bindT_tup, setAll_nil, setAll_cons, forget_nil, forget_cons, prt_int, prt_out, isOut, keepOk_nil, keepOk_cons, recv_str, b_add, b_sub, c_lt, c_le, c_gt, c_ge, c_ltS, c_gtS, c_eqI, c_neI, c_eqS, c_neS, c_eqB, c_neB, c_isn, c_isnt, c_memS, c_nmemS, sl_lst, len_lst, len_tup, is_str, is_intI, is_boolI, is_boolB, tuple_lst, list_lst, list_tup, find_one, seqO_nx, seqO_no, seqO_rt, seqO_ex, seqO_bk, seqO_ct, seqO_seqO, seqO_ite, x_nil, sat_nx, sat_rt, sat_ex, sat_thru, sat_thru_ct, sat_nxt, sat_t1, sat_t1c, sat_t1r, sat_t1e, Rs.bind_ok, Rs.bind_ex, Rs.out_ok, Rs.out_ex, List.set_cons_succ, List.set_cons_zero, List.getElem?_cons_succ, List.getElem?_cons_zero, List.map_cons, List.map_nil, List.cons_append, List.nil_append, startG, List.reduceReplicate, List.length_cons, List.length_nil, Nat.reduceAdd, Nat.reduceSub, Nat.zero_add, Nat.add_zero, Nat.zero_le, Nat.reduceLeDiff, List.append_nil, reduceCtorEq, if_true, if_false, ite_true, ite_false, ne_eq, not_false_eq_true, not_true_eq_false, decide_true, decide_false, decide_not, Bool.not_true, Bool.not_false, Bool.and_true, Bool.true_and, Bool.and_self, Bool.false_eq_true, and_self, and_true, true_and, decide_eq_true_eq, Int.reduceEq, Int.reduceNe, Int.reduceLT, Int.reduceLE, Int.reduceNeg, Int.reduceAdd, Int.reduceSub, tgSlots, freeAt, List.all_cons, List.all_nil, hw c hc], fun z => by cases z⟩
  have e2 : w.length < sizeLine := line_lt (by omega)
  simp only [tstO_eq, x_seq, x_set, x_own, x_do, x_if, x_for, x_whl, x_ret, x_retN, x_pass, x_brk, x_cnt, x_rse, x_fgt, x_frz, x_retp, x_app, x_aug, x_unp, x_put, e_v, e_pk, e_k, e_gl, e_b, e_neg, e_cmp, e_and, e_or, e_not, e_ife, e_tup, e_lst, e_dct, e_dct1, e_lset, e_ix, e_sl, e_rv, rv_lst, e_out, e_bi, e_me, e_call, e_comp, es_nil, es_cons, i_ex, i_rng1, i_rng2, i_zip, i_rev, valO_ok, pkO_ok, glO_ok, negO_ok, frzO_ok, retO_ok, augO_add, augO_sub, appO_ok, unpO_ok, walkO_lst, walkO_tup, walkO_str, rng1O_ok, rng2O_ok, zipO_ok, zipI_ok, revO_ok, asB_ok, items_lst, items_tup, items_str, bindT_one, bindT_tup, setAll_nil, setAll_cons, forget_nil, forget_cons, prt_int, prt_out, isOut, keepOk_nil, keepOk_cons, recv_str, b_add, b_sub, c_lt, c_le, c_gt, c_ge, c_ltS, c_gtS, c_eqI, c_neI, c_eqS, c_neS, c_eqB, c_neB, c_isn, c_isnt, c_memS, c_nmemS, sl_lst, len_lst, len_tup, is_str, is_intI, is_boolI, is_boolB, tuple_lst, list_lst, list_tup, find_one, seqO_nx, seqO_no, seqO_rt, seqO_ex, seqO_bk, seqO_ct, seqO_seqO, seqO_ite, x_nil, sat_nx, sat_rt, sat_ex, sat_thru, sat_thru_ct, sat_nxt, sat_t1, sat_t1c, sat_t1r, sat_t1e, Rs.bind_ok, Rs.bind_ex, Rs.out_ok, Rs.out_ex, List.set_cons_succ, List.set_cons_zero, List.getElem?_cons_succ, List.getElem?_cons_zero, List.map_cons, List.map_nil, List.cons_append, List.nil_append, startG, List.reduceReplicate, List.length_cons, List.length_nil, Nat.reduceAdd, Nat.reduceSub, Nat.zero_add, Nat.add_zero, Nat.zero_le, Nat.reduceLeDiff, List.append_nil, reduceCtorEq, if_true, if_false, ite_true, ite_false, ne_eq, not_false_eq_true, not_true_eq_false, decide_true, decide_false, decide_not, Bool.not_true, Bool.not_false, Bool.and_true, Bool.true_and, Bool.and_self, Bool.false_eq_true, and_self, and_true, true_and, decide_eq_true_eq, Int.reduceEq, Int.reduceNe, Int.reduceLT, Int.reduceLE, Int.reduceNeg, Int.reduceAdd, Int.reduceSub, tgSlots, freeAt, List.all_cons, List.all_nil, List.length_map, e2, e1, quiet_ok]
  rfl
/-! ### the word made of cells -/
def wordOf (s : List Nat) (cells : List Int) : List Nat := cells.map fun c => s.getD (c % (s.length : Int)).toNat 0
theorem strs_one : ∀ l : List Nat, strsOf (l.map fun c => RA.D.str [c]) = some (l.map fun c => [c])
  | [] => rfl
  | c :: l => by
    show (strsOf (l.map fun c => RA.D.str [c])).map ([c] :: ·) = _
    rw [strs_one l]; rfl
theorem join_one : ∀ l : List Nat, joinD (l.map fun c => [c]) = l ∧ sumLen (l.map fun c => [c]) = l.length
  | [] => ⟨rfl, rfl⟩
  | c :: l => by
    obtain ⟨h1, h2⟩ := join_one l
    exact ⟨by show [c] ++ joinD (l.map fun c => [c]) = _; rw [h1]; rfl, by show 1 + sumLen (l.map fun c => [c]) = l.length + 1; rw [h2]; omega⟩
theorem join_signs {l : List Nat} (h : l.length ≤ 1000000) : meD .join (.str []) [.lst (l.map fun c => RA.D.str [c])] = .ok (.val, .str l) := by
  obtain ⟨h1, h2⟩ := join_one l
  unfold meD
  dsimp only
  rw [strs_one]
  dsimp only
  rw [h2, if_pos h, h1]
theorem mod_ix {n : Nat} (h : 0 < n) (c : Int) : ∃ i : Nat, c % (n : Int) = i ∧ i < n := by
  have h1 := Int.emod_nonneg c (show (n : Int) ≠ 0 by omega)
  have h2 := Int.emod_lt_of_pos c (show 0 < (n : Int) by omega)
  exact ⟨(c % (n : Int)).toNat, by omega, by omega⟩
theorem word_made_ok {s : List Nat} (h : Ltrs s) (cells : List Int) (hc : cells.length ≤ 1000) : m_law_word [.str s, .lst (cells.map .int)] = .ok (false, .str (wordOf s cells)) ∧ Ov s (wordOf s cells) ∧ (wordOf s cells).length = cells.length := by
  have hp := h.pos
  have e1 : s.length ≤ sizeLine := line_big (by have := h.le; omega)
  refine ⟨?_, fun x hx => ?_, by unfold wordOf; rw [List.length_map]⟩
  · refine mk_of rfl ?_
    unfold i_law_word
    have e2 : compGo (tstO f_law_word (.k (.bl true))) (ev f_law_word (.ix (.v 0) (.b .mod (.v 2) (.bi .len (.cons (.v 0) .nil))))) (.one 2) [some (false, .str s), some (false, .lst (cells.map .int)), none] (cells.map .int) = .ok ((wordOf s cells).map fun c => RA.D.str [c]) := by
      rw [comp_map (fun d => match d with | .int c => .str [s.getD (c % (s.length : Int)).toNat 0] | d => d)]
      · unfold wordOf
        rw [List.map_map, List.map_map]; rfl
      · intro d hd
        obtain ⟨c, hc, rfl⟩ := List.mem_map.mp hd
        obtain ⟨i, ei, hi⟩ := mod_ix hp c
        have e3 : binD .mod (.int c) (.int s.length) = .ok (.val, .int i) := by rw [b_mod (by omega), ei]
        have e4 : atI s (i : Int) = some s[i] := geta (by simp [hi])
        refine ⟨_, rfl, rfl, .val, by simp, ?_⟩
        simp only [tstO_eq, x_seq, x_set, x_own, x_do, x_if, x_for, x_whl, x_ret, x_retN, x_pass, x_brk, x_cnt, x_rse, x_fgt, x_frz, x_retp, x_app, x_aug, x_unp, x_put, e_v, e_pk, e_k, e_gl, e_b, e_neg, e_cmp, e_and, e_or, e_not, e_ife, e_tup, e_lst, e_dct, e_dct1, e_lset, e_ix, e_sl, e_rv, rv_lst, e_out, e_bi, e_me, e_call, e_comp, es_nil, es_cons, i_ex, i_rng1, i_rng2, i_zip, i_rev, valO_ok, pkO_ok, glO_ok, negO_ok, frzO_ok, retO_ok, augO_add, augO_sub, appO_ok, unpO_ok, walkO_lst, walkO_tup, walkO_str, rng1O_ok, rng2O_ok, zipO_ok, zipI_ok, revO_ok, asB_ok, items_lst, items_tup, items_str, bindT_one, bindT_tup, setAll_nil, setAll_cons, forget_nil, forget_cons, prt_int, prt_out, isOut, keepOk_nil, keepOk_cons, recv_str, b_add, b_sub, c_lt, c_le, c_gt, c_ge, c_ltS, c_gtS, c_eqI, c_neI, c_eqS, c_neS, c_eqB, c_neB, c_isn, c_isnt, c_memS, c_nmemS, sl_lst, len_lst, len_tup, is_str, is_intI, is_boolI, is_boolB, tuple_lst, list_lst, list_tup, find_one, seqO_nx, seqO_no, seqO_rt, seqO_ex, seqO_bk, seqO_ct, seqO_seqO, seqO_ite, x_nil, sat_nx, sat_rt, sat_ex, sat_thru, sat_thru_ct, sat_nxt, sat_t1, sat_t1c, sat_t1r, sat_t1e, Rs.bind_ok, Rs.bind_ex, Rs.out_ok, Rs.out_ex, List.set_cons_succ, List.set_cons_zero, List.getElem?_cons_succ, List.getElem?_cons_zero, List.map_cons, List.map_nil, List.cons_append, List.nil_append, startG, List.reduceReplicate, List.length_cons, List.length_nil, Nat.reduceAdd, Nat.reduceSub, Nat.zero_add, Nat.add_zero, Nat.zero_le, Nat.reduceLeDiff, List.append_nil, reduceCtorEq, if_true, if_false, ite_true, ite_false, ne_eq, not_false_eq_true, not_true_eq_false, decide_true, decide_false, decide_not, Bool.not_true, Bool.not_false, Bool.and_true, Bool.true_and, Bool.and_self, Bool.false_eq_true, and_self, and_true, true_and, decide_eq_true_eq, Int.reduceEq, Int.reduceNe, Int.reduceLT, Int.reduceLE, Int.reduceNeg, Int.reduceAdd, Int.reduceSub, tgSlots, freeAt, List.all_cons, List.all_nil, len_str e1, e3, ix_sign e1 e4, ei]
        simp [hi]
    have e5 : cells.length < sizeLine := line_lt (by omega)
    have e6 := join_signs (l := wordOf s cells) (by unfold wordOf; rw [List.length_map]; omega)
    simp only [tstO_eq, x_seq, x_set, x_own, x_do, x_if, x_for, x_whl, x_ret, x_retN, x_pass, x_brk, x_cnt, x_rse, x_fgt, x_frz, x_retp, x_app, x_aug, x_unp, x_put, e_v, e_pk, e_k, e_gl, e_b, e_neg, e_cmp, e_and, e_or, e_not, e_ife, e_tup, e_lst, e_dct, e_dct1, e_lset, e_ix, e_sl, e_rv, rv_lst, e_out, e_bi, e_me, e_call, e_comp, es_nil, es_cons, i_ex, i_rng1, i_rng2, i_zip, i_rev, valO_ok, pkO_ok, glO_ok, negO_ok, frzO_ok, retO_ok, augO_add, augO_sub, appO_ok, unpO_ok, walkO_lst, walkO_tup, walkO_str, rng1O_ok, rng2O_ok, zipO_ok, zipI_ok, revO_ok, asB_ok, items_lst, items_tup, items_str, bindT_one, bindT_tup, setAll_nil, setAll_cons, forget_nil, forget_cons, prt_int, prt_out, isOut, keepOk_nil, keepOk_cons, recv_str, b_add, b_sub, c_lt, c_le, c_gt, c_ge, c_ltS, c_gtS, c_eqI, c_neI, c_eqS, c_neS, c_eqB, c_neB, c_isn, c_isnt, c_memS, c_nmemS, sl_lst, len_lst, len_tup, is_str, is_intI, is_boolI, is_boolB, tuple_lst, list_lst, list_tup, find_one, seqO_nx, seqO_no, seqO_rt, seqO_ex, seqO_bk, seqO_ct, seqO_seqO, seqO_ite, x_nil, sat_nx, sat_rt, sat_ex, sat_thru, sat_thru_ct, sat_nxt, sat_t1, sat_t1c, sat_t1r, sat_t1e, Rs.bind_ok, Rs.bind_ex, Rs.out_ok, Rs.out_ex, List.set_cons_succ, List.set_cons_zero, List.getElem?_cons_succ, List.getElem?_cons_zero, List.map_cons, List.map_nil, List.cons_append, List.nil_append, startG, List.reduceReplicate, List.length_cons, List.length_nil, Nat.reduceAdd, Nat.reduceSub, Nat.zero_add, Nat.add_zero, Nat.zero_le, Nat.reduceLeDiff, List.append_nil, reduceCtorEq, if_true, if_false, ite_true, ite_false, ne_eq, not_false_eq_true, not_true_eq_false, decide_true, decide_false, decide_not, Bool.not_true, Bool.not_false, Bool.and_true, Bool.true_and, Bool.and_self, Bool.false_eq_true, and_self, and_true, true_and, decide_eq_true_eq, Int.reduceEq, Int.reduceNe, Int.reduceLT, Int.reduceLE, Int.reduceNeg, Int.reduceAdd, Int.reduceSub, tgSlots, freeAt, List.all_cons, List.all_nil, List.length_map, e5, e2, quiet_ok, e6]
  · unfold wordOf at hx
    obtain ⟨c, hc, rfl⟩ := List.mem_map.mp hx
    obtain ⟨i, ei, hi⟩ := mod_ix hp c
    rw [ei, Int.toNat_natCast, List.getD_eq_getElem?_getD, List.getElem?_eq_getElem hi]
    exact List.getElem_mem hi
/-! ### the word of a number -/
theorem geo_pos {n : Int} (hn : 1 ≤ n) : ∀ k : Nat, 1 ≤ n ^ k
  | 0 => by simp
  | k + 1 => by
    have ih := geo_pos hn k
    rw [Int.pow_succ]
    have : 1 * 1 ≤ n ^ k * n := Int.mul_le_mul ih hn (by omega) (by omega)
    omega
theorem geo_le {n : Int} (hn : 1 ≤ n) : ∀ {j k : Nat}, j ≤ k → geo n j ≤ geo n k
  | j, k, h => by
    induction h with
    | refl => exact Int.le_refl _
    | step _ ih =>
      show geo n j ≤ geo n _ + n ^ _
      have := geo_pos hn ‹Nat›
      rename_i m _
      have := geo_pos hn m
      omega
theorem bij_rng {s : List Nat} (h : Ltrs s) : ∀ {w : List Nat}, Ov s w → geo s.length w.length ≤ bij s w ∧ bij s w < geo s.length (w.length + 1)
  | [], _ => by simp [bij, geo]
  | c :: w, hw => by
    obtain ⟨h1, h2⟩ := bij_rng h (w := w) fun x hx => hw x (List.mem_cons_of_mem _ hx)
    obtain ⟨i, e, hi, _⟩ := find_in (hw c List.mem_cons_self)
    have hp := geo_pos (n := s.length) (by have := h.pos; omega) w.length
    show geo s.length w.length + (s.length : Int) ^ w.length ≤ (findL s c + 1) * (s.length : Int) ^ w.length + bij s w ∧ (findL s c + 1) * (s.length : Int) ^ w.length + bij s w < geo s.length (w.length + 1) + (s.length : Int) ^ (w.length + 1)
    rw [e, Int.pow_succ]
    generalize (s.length : Int) ^ w.length = P at hp
    have g1 : 1 * P ≤ ((i : Int) + 1) * P := Int.mul_le_mul_of_nonneg_right (by omega) (by omega)
    have g2 : ((i : Int) + 1) * P ≤ (s.length : Int) * P := Int.mul_le_mul_of_nonneg_right (by omega) (by omega)
    rw [Int.mul_comm P]
    omega
theorem bij_inj {s : List Nat} (h : Ltrs s) : ∀ {w v : List Nat}, Ov s w → Ov s v → bij s w = bij s v → w = v := by
  have hl1 : (1 : Int) ≤ s.length := by have := h.pos; omega
  have len : ∀ {w v : List Nat}, Ov s w → Ov s v → bij s w = bij s v → w.length = v.length := fun {w v} hw hv e => by
    obtain ⟨a1, a2⟩ := bij_rng h hw
    obtain ⟨b1, b2⟩ := bij_rng h hv
    rcases Nat.lt_trichotomy w.length v.length with q | q | q
    · have := geo_le hl1 (show w.length + 1 ≤ v.length from q); omega
    · exact q
    · have := geo_le hl1 (show v.length + 1 ≤ w.length from q); omega
  intro w
  induction w with
  | nil =>
    intro v hw hv e
    have := len hw hv e
    cases v with
    | nil => rfl
    | cons _ _ => simp at this
  | cons c w ih =>
    intro v hw hv e
    have hl := len hw hv e
    cases v with
    | nil => simp at hl
    | cons d v =>
      have hl' : w.length = v.length := by simpa using hl
      have hw' : Ov s w := fun x hx => hw x (List.mem_cons_of_mem _ hx)
      have hv' : Ov s v := fun x hx => hv x (List.mem_cons_of_mem _ hx)
      obtain ⟨a1, a2⟩ := bij_rng h hw'
      obtain ⟨b1, b2⟩ := bij_rng h hv'
      obtain ⟨i, e1, hi, g1⟩ := find_in (hw c List.mem_cons_self)
      obtain ⟨j, e2, hj, g2⟩ := find_in (hv d List.mem_cons_self)
      have e' : (findL s c + 1) * (s.length : Int) ^ w.length + bij s w = (findL s d + 1) * (s.length : Int) ^ v.length + bij s v := e
      rw [e1, e2, ← hl'] at e'
      have hp := geo_pos hl1 w.length
      rw [← hl'] at b1 b2
      have hgs : geo s.length (w.length + 1) = geo s.length w.length + (s.length : Int) ^ w.length := rfl
      rw [hgs] at a2 b2
      generalize (s.length : Int) ^ w.length = P at e' hp a2 b2
      have hij : i = j := by
        rcases Nat.lt_trichotomy i j with q | q | q
        · have : ((i : Int) + 1 + 1) * P ≤ ((j : Int) + 1) * P := Int.mul_le_mul_of_nonneg_right (by omega) (by omega)
          rw [Int.add_mul ((i : Int) + 1)] at this
          omega
        · exact q
        · have : ((j : Int) + 1 + 1) * P ≤ ((i : Int) + 1) * P := Int.mul_le_mul_of_nonneg_right (by omega) (by omega)
          rw [Int.add_mul ((j : Int) + 1)] at this
          omega
      subst hij
      have ec : c = d := by rw [g1] at g2; exact Option.some.inj g2
      rw [ec, ih hw' hv' (by omega)]
/-! ### the number drawn -/
end RA
/-! W2: machines. -/
namespace RA
open PySem PySem.Spec PyProof.Rows L2
/- 22 _law_letters(_law_cell); slots: 0=_law_cell 1=_law_left 2=_law_number 3=_law_many 4=_law_found 5=_law_k 6=_law_at; calls:  -/
def i_law_letters_2 : IS := (.seq (.set 1 (.k (.str [97, 98, 99, 100, 101, 102, 103, 104, 105, 106, 107, 108, 109, 110, 111, 112, 113, 114, 115, 116, 117, 118, 119, 120, 121, 122]))) (.seq (.set 2 (.b .mod (.v 0) (.k (.int 46800)))) (.seq (.set 3 (.b .add (.k (.int 1)) (.b .mod (.v 2) (.k (.int 3))))) (.seq (.set 2 (.b .fdiv (.v 2) (.k (.int 3)))) (.seq (.set 4 (.k (.str []))) (.seq (.for_ (.one 5) (.rng1 (.v 3)) (.seq (.set 6 (.b .mod (.v 2) (.bi .len (.cons (.v 1) .nil)))) (.seq (.set 2 (.b .fdiv (.v 2) (.bi .len (.cons (.v 1) .nil)))) (.seq (.set 4 (.b .add (.v 4) (.ix (.v 1) (.v 6)))) (.seq (.set 1 (.b .add (.sl (.v 1) .out (.v 6)) (.sl (.v 1) (.b .add (.v 6) (.k (.int 1))) .out))) .nil))))) (.seq (.ret (.v 4)) .nil)))))))
def f_law_letters_2 : FT := fun _ _ => .no
def m_law_letters_2 : List RA.D → Rs (Bool × RA.D) := mk 1 7 f_law_letters_2 i_law_letters_2
/- 23 _law_machine(_law_script, _law_at, _law_rooms, _law_letters_here); slots: 0=_law_script 1=_law_at 2=_law_rooms 3=_law_letters_here 4=_law_ways 5=_law_marks 6=_law_number 7=_law_k 8=_law_rest 9=_law_row 10=_law_sign; calls: 6=law_cell_at -/
def i_law_machine : IS := (.seq (.own 4 (.lst .nil)) (.seq (.own 5 (.lst .nil)) (.seq (.set 6 (.k (.int 0))) (.seq (.for_ (.one 7) (.rng1 (.v 2)) (.seq (.set 6 (.b .mod (.b .add (.b .add (.b .mul (.v 6) (.v 6)) (.b .mul (.k (.int 48271)) (.b .mod (.call 6 (.cons (.v 0) (.cons (.b .add (.v 1) (.v 7)) .nil))) (.b .pow (.k (.int 10)) (.k (.int 9)))))) (.v 7)) (.k (.int 2147483647)))) (.seq (.set 8 (.v 6)) (.seq (.own 9 (.lst .nil)) (.seq (.for_ (.one 10) (.ex (.v 3)) (.seq (.app 9 (.b .mod (.v 8) (.v 2))) (.seq (.set 8 (.b .fdiv (.v 8) (.v 2))) .nil))) (.seq (.app 4 (.bi .tuple (.cons (.pk 9) .nil))) (.seq (.app 5 (.cmp .eq (.b .mod (.v 8) (.k (.int 2))) (.k (.int 1)))) (.seq (.fgt [9]) .nil)))))))) (.seq (.ret (.tup (.cons (.v 3) (.cons (.bi .tuple (.cons (.pk 4) .nil)) (.cons (.bi .tuple (.cons (.pk 5) .nil)) .nil))))) .nil)))))
def f_law_machine : FT := fun n ds => match n, ds with | 6, ds => m_law_cell_at ds | _, _ => .no
@[simp] theorem f_law_machine_6 (ds : List RA.D) : f_law_machine 6 ds = m_law_cell_at ds := (rfl)
def m_law_machine : List RA.D → Rs (Bool × RA.D) := mk 4 11 f_law_machine i_law_machine
/- 24 led(machine, room, word); slots: 0=machine 1=room 2=word 3=letters 4=ways 5=sign; calls:  -/
def i_led : IS := (.seq (.set 3 (.ix (.v 0) (.k (.int 0)))) (.seq (.set 4 (.ix (.v 0) (.k (.int 1)))) (.seq (.for_ (.one 5) (.ex (.v 2)) (.seq (.set 1 (.ix (.ix (.v 4) (.v 1)) (.me .find (.v 3) (.cons (.v 5) .nil)))) .nil)) (.seq (.ret (.v 1)) .nil))))
def f_led : FT := fun _ _ => .no
def m_led : List RA.D → Rs (Bool × RA.D) := mk 3 6 f_led i_led
/- 25 takes(machine, word); slots: 0=machine 1=word; calls: 11=check_word 24=led -/
def f_takes : FT := fun n ds => match n, ds with | 11, ds => m_check_word ds | 24, ds => m_led ds | _, _ => .no
@[simp] theorem f_takes_11 (ds : List RA.D) : f_takes 11 ds = m_check_word ds := (rfl)
@[simp] theorem f_takes_24 (ds : List RA.D) : f_takes 24 ds = m_led ds := (rfl)
/- 26 room_after(machine, room, word); slots: 0=machine 1=room 2=word; calls: 11=check_word 24=led -/
def f_room_after : FT := fun n ds => match n, ds with | 11, ds => m_check_word ds | 24, ds => m_led ds | _, _ => .no
@[simp] theorem f_room_after_11 (ds : List RA.D) : f_room_after 11 ds = m_check_word ds := (rfl)
@[simp] theorem f_room_after_24 (ds : List RA.D) : f_room_after 24 ds = m_led ds := (rfl)
/- 27 _law_after(_law_machine_here, _law_room, _law_word_here); slots: 0=_law_machine_here 1=_law_room 2=_law_word_here 3=_law_sign; calls:  -/
def i_law_after : IS := (.seq (.for_ (.one 3) (.ex (.v 2)) (.seq (.set 1 (.ix (.ix (.ix (.v 0) (.k (.int 1))) (.v 1)) (.me .find (.ix (.v 0) (.k (.int 0))) (.cons (.v 3) .nil)))) .nil)) (.seq (.ret (.v 1)) .nil))
def f_law_after : FT := fun _ _ => .no
def m_law_after : List RA.D → Rs (Bool × RA.D) := mk 3 4 f_law_after i_law_after
theorem letters2_ok (c : Int) : ∃ s, m_law_letters_2 [.int c] = .ok (false, .str s) ∧ Ltrs s := by
  suffices h : Sat (exec f_law_letters_2 FUEL i_law_letters_2 (startG 7 [.int c])) fun o => ∃ s, fin o = .ok (false, .str s) ∧ Ltrs s by
    obtain ⟨s, h1, h2⟩ := h
    exact ⟨s, (mk_fin rfl).trans h1, h2⟩
  unfold i_law_letters_2
  obtain ⟨m, em, hm⟩ : ∃ m : Nat, c % 46800 % 3 = (m : Int) ∧ m < 3 := ⟨(c % 46800 % 3).toNat, by omega, by omega⟩
  have hs : smallI (1 + (m : Int)) = true := small_int (by omega) (by omega)
  have h0 : 0 ≤ c % 46800 / 3 := by omega
  generalize hq : c % 46800 / 3 = q at h0
  simp [startG, em, hs, hq]
  refine for_ix (fun i G => ∃ left num found t5 t6, G = [some (false, .int c), some (false, .str left), some (false, .int num), some (false, .int (1 + (m : Int))), some (false, .str found), t5, t6] ∧ 0 ≤ num ∧ (found ++ left).Nodup ∧ (∀ x ∈ found ++ left, 97 ≤ x ∧ x ≤ 122) ∧ found.length = i ∧ left.length = 26 - i) ?_ ?_ ?_
  · exact ⟨_, _, _, _, _, rfl, h0, by decide, by decide, rfl, rfl⟩
  · rintro i d G hd ⟨left, num, found, t5, t6, rfl, hn, nd, az, hf, hl⟩
    refine ⟨_, rfl, ?_⟩
    have hi := (range_get hd).2
    have hlp : 0 < left.length := by omega
    obtain ⟨a, ea, la⟩ : ∃ a : Nat, num % (left.length : Int) = a ∧ a < left.length := by
      have h1 := Int.emod_nonneg num (show (left.length : Int) ≠ 0 by omega)
      have h2 := Int.emod_lt_of_pos num (show 0 < (left.length : Int) by omega)
      exact ⟨(num % (left.length : Int)).toNat, by omega, by omega⟩
    have e1 : left.length ≤ sizeLine := line_big (by omega)
    have e2 : atI left (a : Int) = some left[a] := geta (by simp [la])
    have e3 : cutD left (some ((a : Int) + 1)) none = left.drop (a + 1) := cut_from (k := a + 1)
    have e4 : binD .fdiv (.int num) (.int left.length) = .ok (.val, .int (num / left.length)) := b_fdiv (by omega) (by omega)
    have e5 : binD .mod (.int num) (.int left.length) = .ok (.val, .int a) := by rw [b_mod (by omega), ea]
    have e6 : binD .add (.str found) (.str [left[a]]) = .ok (.val, .str (found ++ [left[a]])) := b_cat (line_big (by simp; omega))
    have e7 : binD .add (.str (left.take a)) (.str (left.drop (a + 1))) = .ok (.val, .str (left.take a ++ left.drop (a + 1))) := b_cat (line_big (by simp; omega))
    simp only [tstO_eq, x_seq, x_set, x_own, x_do, x_if, x_for, x_whl, x_ret, x_retN, x_pass, x_brk, x_cnt, x_rse, x_fgt, x_frz, x_retp, x_app, x_aug, x_unp, x_put, e_v, e_pk, e_k, e_gl, e_b, e_neg, e_cmp, e_and, e_or, e_not, e_ife, e_tup, e_lst, e_dct, e_dct1, e_lset, e_ix, e_sl, e_rv, rv_lst, e_out, e_bi, e_me, e_call, e_comp, es_nil, es_cons, i_ex, i_rng1, i_rng2, i_zip, i_rev, valO_ok, pkO_ok, glO_ok, negO_ok, frzO_ok, retO_ok, augO_add, augO_sub, appO_ok, unpO_ok, walkO_lst, walkO_tup, walkO_str, rng1O_ok, rng2O_ok, zipO_ok, zipI_ok, revO_ok, asB_ok, items_lst, items_tup, items_str, bindT_one, bindT_tup, setAll_nil, setAll_cons, forget_nil, forget_cons, prt_int, prt_out, isOut, keepOk_nil, keepOk_cons, recv_str, b_add, b_sub, c_lt, c_le, c_gt, c_ge, c_ltS, c_gtS, c_eqI, c_neI, c_eqS, c_neS, c_eqB, c_neB, c_isn, c_isnt, c_memS, c_nmemS, sl_lst, len_lst, len_tup, is_str, is_intI, is_boolI, is_boolB, tuple_lst, list_lst, list_tup, find_one, seqO_nx, seqO_no, seqO_rt, seqO_ex, seqO_bk, seqO_ct, seqO_seqO, seqO_ite, x_nil, sat_nx, sat_rt, sat_ex, sat_thru, sat_thru_ct, sat_nxt, sat_t1, sat_t1c, sat_t1r, sat_t1e, Rs.bind_ok, Rs.bind_ex, Rs.out_ok, Rs.out_ex, List.set_cons_succ, List.set_cons_zero, List.getElem?_cons_succ, List.getElem?_cons_zero, List.map_cons, List.map_nil, List.cons_append, List.nil_append, startG, List.reduceReplicate, List.length_cons, List.length_nil, Nat.reduceAdd, Nat.reduceSub, Nat.zero_add, Nat.add_zero, Nat.zero_le, Nat.reduceLeDiff, List.append_nil, reduceCtorEq, if_true, if_false, ite_true, ite_false, ne_eq, not_false_eq_true, not_true_eq_false, decide_true, decide_false, decide_not, Bool.not_true, Bool.not_false, Bool.and_true, Bool.true_and, Bool.and_self, Bool.false_eq_true, and_self, and_true, true_and, decide_eq_true_eq, Int.reduceEq, Int.reduceNe, Int.reduceLT, Int.reduceLE, Int.reduceNeg, Int.reduceAdd, Int.reduceSub, tgSlots, freeAt, List.all_cons, List.all_nil, len_str e1, e5, e4, ix_sign e1 e2, e6, sl_sign e1, cut_to, e3, e7]
    have p := cut_perm la
    have p2 : ((found ++ [left[a]]) ++ (left.take a ++ left.drop (a + 1))).Perm (found ++ left) := by
      rw [List.append_assoc]
      exact List.Perm.append_left _ p
    refine ⟨_, _, _, _, _, rfl, Int.ediv_nonneg hn (by omega), p2.nodup_iff.mpr nd, fun x hx => az x (p2.mem_iff.mp hx), by simp [hf], ?_⟩
    simp; omega
  · rintro G ⟨left, num, found, t5, t6, rfl, hn, nd, az, hf, hl⟩
    have e : (rangeD 0 (1 + (m : Int))).length = 1 + m := by rw [range_len]; omega
    rw [e] at hf
    simp [Sat, fin]
    exact ⟨by omega, by omega, (List.nodup_append.mp nd).1, fun x hx => az x (List.mem_append_left _ hx)⟩
/-- a machine as data: its letters, the rows of its ways, its marks -/
def mD (s : List Nat) (rows : List (List Nat)) (marks : List Bool) : RA.D := .tup [.str s, .tup (rows.map fun r => .tup (r.map fun (i : Nat) => .int i)), .tup (marks.map .bl)]
structure Mach (s : List Nat) (rows : List (List Nat)) (marks : List Bool) : Prop where
  ltrs : Ltrs s
  pos : 0 < rows.length
  row : ∀ r ∈ rows, r.length = s.length ∧ ∀ i ∈ r, i < rows.length
  mkl : marks.length = rows.length
/-- one way -/
def way (s : List Nat) (rows : List (List Nat)) (r c : Nat) : Nat := (rows.getD r []).getD (findL s c).toNat 0
def lead (s : List Nat) (rows : List (List Nat)) (r : Nat) (w : List Nat) : Nat := w.foldl (way s rows) r
theorem way_ok {s : List Nat} {rows : List (List Nat)} {marks : List Bool} (M : Mach s rows marks) {r c : Nat} (hr : r < rows.length) (hc : c ∈ s) :
    way s rows r c < rows.length ∧ ∃ i : Nat, findL s c = i ∧ atI (rows.map fun r => RA.D.tup (r.map fun (i : Nat) => .int i)) (r : Int) = some (.tup ((rows.getD r []).map fun (i : Nat) => .int i)) ∧ atI ((rows.getD r []).map fun (i : Nat) => RA.D.int i) (i : Int) = some (.int (way s rows r c)) := by
  obtain ⟨i, e, hi, _⟩ := find_in hc
  have hrow : rows.getD r [] ∈ rows := by rw [List.getD_eq_getElem?_getD, List.getElem?_eq_getElem hr]; exact List.getElem_mem hr
  obtain ⟨h1, h2⟩ := M.row _ hrow
  have hi2 : i < (rows.getD r []).length := by rw [h1]; exact hi
  have ew : way s rows r c = (rows.getD r [])[i] := by
    unfold way
    rw [e, Int.toNat_natCast, List.getD_eq_getElem?_getD (l := rows.getD r []), List.getElem?_eq_getElem hi2]; rfl
  refine ⟨by rw [ew]; exact h2 _ (List.getElem_mem hi2), i, e, ?_, ?_⟩
  · refine geta ?_
    rw [List.getElem?_map, List.getElem?_eq_getElem hr, List.getD_eq_getElem?_getD, List.getElem?_eq_getElem hr]; rfl
  · refine geta ?_
    rw [List.getElem?_map, List.getElem?_eq_getElem hi2, ew]; rfl
theorem lead_lt {s : List Nat} {rows : List (List Nat)} {marks : List Bool} (M : Mach s rows marks) : ∀ {w : List Nat} {r : Nat}, Ov s w → r < rows.length → lead s rows r w < rows.length
  | [], _, _, hr => hr
  | c :: w, r, hw, hr => lead_lt M (w := w) (fun x hx => hw x (List.mem_cons_of_mem _ hx)) (way_ok M hr (hw c List.mem_cons_self)).1
theorem lead_snoc (s : List Nat) (rows : List (List Nat)) (r : Nat) (w : List Nat) (c : Nat) : lead s rows r (w ++ [c]) = way s rows (lead s rows r w) c := by unfold lead; rw [List.foldl_append]; rfl
theorem Ov.take {s w : List Nat} (h : Ov s w) (k : Nat) : Ov s (w.take k) := fun c hc => h c (List.mem_of_mem_take hc)
theorem Ov.drop {s w : List Nat} (h : Ov s w) (k : Nat) : Ov s (w.drop k) := fun c hc => h c (List.mem_of_mem_drop hc)
section
variable {s : List Nat} {rows : List (List Nat)} {marks : List Bool}
theorem m0 : ∀ {a b c : RA.D}, atI [a, b, c] 0 = some a := rfl
theorem m1 : ∀ {a b c : RA.D}, atI [a, b, c] 1 = some b := rfl
theorem m2 : ∀ {a b c : RA.D}, atI [a, b, c] 2 = some c := rfl
theorem law_after_ok (M : Mach s rows marks) {r : Nat} {w : List Nat} (hr : r < rows.length) (hw : Ov s w) : m_law_after [mD s rows marks, .int r, .str w] = .ok (false, .int (lead s rows r w)) := by
  refine mk_of rfl ?_
  unfold i_law_after mD
  simp only [tstO_eq, x_seq, x_set, x_own, x_do, x_if, x_for, x_whl, x_ret, x_retN, x_pass, x_brk, x_cnt, x_rse, x_fgt, x_frz, x_retp, x_app, x_aug, x_unp, x_put, e_v, e_pk, e_k, e_gl, e_b, e_neg, e_cmp, e_and, e_or, e_not, e_ife, e_tup, e_lst, e_dct, e_dct1, e_lset, e_ix, e_sl, e_rv, rv_lst, e_out, e_bi, e_me, e_call, e_comp, es_nil, es_cons, i_ex, i_rng1, i_rng2, i_zip, i_rev, valO_ok, pkO_ok, glO_ok, negO_ok, frzO_ok, retO_ok, augO_add, augO_sub, appO_ok, unpO_ok, walkO_lst, walkO_tup, walkO_str, rng1O_ok, rng2O_ok, zipO_ok, zipI_ok, revO_ok, asB_ok, items_lst, items_tup, items_str, bindT_one, bindT_tup, setAll_nil, setAll_cons, forget_nil, forget_cons, prt_int, prt_out, isOut, keepOk_nil, keepOk_cons, recv_str, b_add, b_sub, c_lt, c_le, c_gt, c_ge, c_ltS, c_gtS, c_eqI, c_neI, c_eqS, c_neS, c_eqB, c_neB, c_isn, c_isnt, c_memS, c_nmemS, sl_lst, len_lst, len_tup, is_str, is_intI, is_boolI, is_boolB, tuple_lst, list_lst, list_tup, find_one, seqO_nx, seqO_no, seqO_rt, seqO_ex, seqO_bk, seqO_ct, seqO_seqO, seqO_ite, x_nil, sat_nx, sat_rt, sat_ex, sat_thru, sat_thru_ct, sat_nxt, sat_t1, sat_t1c, sat_t1r, sat_t1e, Rs.bind_ok, Rs.bind_ex, Rs.out_ok, Rs.out_ex, List.set_cons_succ, List.set_cons_zero, List.getElem?_cons_succ, List.getElem?_cons_zero, List.map_cons, List.map_nil, List.cons_append, List.nil_append, startG, List.reduceReplicate, List.length_cons, List.length_nil, Nat.reduceAdd, Nat.reduceSub, Nat.zero_add, Nat.add_zero, Nat.zero_le, Nat.reduceLeDiff, List.append_nil, reduceCtorEq, if_true, if_false, ite_true, ite_false, ne_eq, not_false_eq_true, not_true_eq_false, decide_true, decide_false, decide_not, Bool.not_true, Bool.not_false, Bool.and_true, Bool.true_and, Bool.and_self, Bool.false_eq_true, and_self, and_true, true_and, decide_eq_true_eq, Int.reduceEq, Int.reduceNe, Int.reduceLT, Int.reduceLE, Int.reduceNeg, Int.reduceAdd, Int.reduceSub, tgSlots, freeAt, List.all_cons, List.all_nil]
  refine for_ix (fun i G => ∃ t, G = [some (false, mD s rows marks), some (false, .int (lead s rows r (w.take i))), some (false, .str w), t]) ⟨none, rfl⟩ ?_ ?_
  · rintro i d G hd ⟨t, rfl⟩
    obtain ⟨c, hc, rfl⟩ := map_get hd
    refine ⟨_, rfl, ?_⟩
    obtain ⟨h1, j, h2, h3, h4⟩ := way_ok M (lead_lt M (hw.take i) hr) (hw c (List.mem_of_getElem? hc))
    unfold mD
    simp only [tstO_eq, x_seq, x_set, x_own, x_do, x_if, x_for, x_whl, x_ret, x_retN, x_pass, x_brk, x_cnt, x_rse, x_fgt, x_frz, x_retp, x_app, x_aug, x_unp, x_put, e_v, e_pk, e_k, e_gl, e_b, e_neg, e_cmp, e_and, e_or, e_not, e_ife, e_tup, e_lst, e_dct, e_dct1, e_lset, e_ix, e_sl, e_rv, rv_lst, e_out, e_bi, e_me, e_call, e_comp, es_nil, es_cons, i_ex, i_rng1, i_rng2, i_zip, i_rev, valO_ok, pkO_ok, glO_ok, negO_ok, frzO_ok, retO_ok, augO_add, augO_sub, appO_ok, unpO_ok, walkO_lst, walkO_tup, walkO_str, rng1O_ok, rng2O_ok, zipO_ok, zipI_ok, revO_ok, asB_ok, items_lst, items_tup, items_str, bindT_one, bindT_tup, setAll_nil, setAll_cons, forget_nil, forget_cons, prt_int, prt_out, isOut, keepOk_nil, keepOk_cons, recv_str, b_add, b_sub, c_lt, c_le, c_gt, c_ge, c_ltS, c_gtS, c_eqI, c_neI, c_eqS, c_neS, c_eqB, c_neB, c_isn, c_isnt, c_memS, c_nmemS, sl_lst, len_lst, len_tup, is_str, is_intI, is_boolI, is_boolB, tuple_lst, list_lst, list_tup, find_one, seqO_nx, seqO_no, seqO_rt, seqO_ex, seqO_bk, seqO_ct, seqO_seqO, seqO_ite, x_nil, sat_nx, sat_rt, sat_ex, sat_thru, sat_thru_ct, sat_nxt, sat_t1, sat_t1c, sat_t1r, sat_t1e, Rs.bind_ok, Rs.bind_ex, Rs.out_ok, Rs.out_ex, List.set_cons_succ, List.set_cons_zero, List.getElem?_cons_succ, List.getElem?_cons_zero, List.map_cons, List.map_nil, List.cons_append, List.nil_append, startG, List.reduceReplicate, List.length_cons, List.length_nil, Nat.reduceAdd, Nat.reduceSub, Nat.zero_add, Nat.add_zero, Nat.zero_le, Nat.reduceLeDiff, List.append_nil, reduceCtorEq, if_true, if_false, ite_true, ite_false, ne_eq, not_false_eq_true, not_true_eq_false, decide_true, decide_false, decide_not, Bool.not_true, Bool.not_false, Bool.and_true, Bool.true_and, Bool.and_self, Bool.false_eq_true, and_self, and_true, true_and, decide_eq_true_eq, Int.reduceEq, Int.reduceNe, Int.reduceLT, Int.reduceLE, Int.reduceNeg, Int.reduceAdd, Int.reduceSub, tgSlots, freeAt, List.all_cons, List.all_nil, ix_tup m0, ix_tup m1, h2, ix_tup h3, ix_tup h4]
    exact ⟨_, by rw [take_snoc hc, lead_snoc]⟩
  · rintro G ⟨t, rfl⟩
    simp only [tstO_eq, x_seq, x_set, x_own, x_do, x_if, x_for, x_whl, x_ret, x_retN, x_pass, x_brk, x_cnt, x_rse, x_fgt, x_frz, x_retp, x_app, x_aug, x_unp, x_put, e_v, e_pk, e_k, e_gl, e_b, e_neg, e_cmp, e_and, e_or, e_not, e_ife, e_tup, e_lst, e_dct, e_dct1, e_lset, e_ix, e_sl, e_rv, rv_lst, e_out, e_bi, e_me, e_call, e_comp, es_nil, es_cons, i_ex, i_rng1, i_rng2, i_zip, i_rev, valO_ok, pkO_ok, glO_ok, negO_ok, frzO_ok, retO_ok, augO_add, augO_sub, appO_ok, unpO_ok, walkO_lst, walkO_tup, walkO_str, rng1O_ok, rng2O_ok, zipO_ok, zipI_ok, revO_ok, asB_ok, items_lst, items_tup, items_str, bindT_one, bindT_tup, setAll_nil, setAll_cons, forget_nil, forget_cons, prt_int, prt_out, isOut, keepOk_nil, keepOk_cons, recv_str, b_add, b_sub, c_lt, c_le, c_gt, c_ge, c_ltS, c_gtS, c_eqI, c_neI, c_eqS, c_neS, c_eqB, c_neB, c_isn, c_isnt, c_memS, c_nmemS, sl_lst, len_lst, len_tup, is_str, is_intI, is_boolI, is_boolB, tuple_lst, list_lst, list_tup, find_one, seqO_nx, seqO_no, seqO_rt, seqO_ex, seqO_bk, seqO_ct, seqO_seqO, seqO_ite, x_nil, sat_nx, sat_rt, sat_ex, sat_thru, sat_thru_ct, sat_nxt, sat_t1, sat_t1c, sat_t1r, sat_t1e, Rs.bind_ok, Rs.bind_ex, Rs.out_ok, Rs.out_ex, List.set_cons_succ, List.set_cons_zero, List.getElem?_cons_succ, List.getElem?_cons_zero, List.map_cons, List.map_nil, List.cons_append, List.nil_append, startG, List.reduceReplicate, List.length_cons, List.length_nil, Nat.reduceAdd, Nat.reduceSub, Nat.zero_add, Nat.add_zero, Nat.zero_le, Nat.reduceLeDiff, List.append_nil, reduceCtorEq, if_true, if_false, ite_true, ite_false, ne_eq, not_false_eq_true, not_true_eq_false, decide_true, decide_false, decide_not, Bool.not_true, Bool.not_false, Bool.and_true, Bool.true_and, Bool.and_self, Bool.false_eq_true, and_self, and_true, true_and, decide_eq_true_eq, Int.reduceEq, Int.reduceNe, Int.reduceLT, Int.reduceLE, Int.reduceNeg, Int.reduceAdd, Int.reduceSub, tgSlots, freeAt, List.all_cons, List.all_nil, List.length_map, List.take_length]
end
/-- the machine that is made of the cells -/
theorem machine_ok (ns : List Int) (k : Nat) {n : Nat} (h1 : 1 ≤ n) (h2 : n ≤ 1000) {s : List Nat} (L : Ltrs s) : ∃ rows marks, m_law_machine [.lst (ns.map .int), .int k, .int n, .str s] = .ok (false, mD s rows marks) ∧ Mach s rows marks ∧ rows.length = n := by
  suffices q : Sat (exec f_law_machine FUEL i_law_machine (startG 11 [.lst (ns.map .int), .int k, .int n, .str s])) fun o => ∃ rows marks, fin o = .ok (false, mD s rows marks) ∧ Mach s rows marks ∧ rows.length = n by
    obtain ⟨rows, marks, q1, q2⟩ := q
    exact ⟨rows, marks, (mk_fin rfl).trans q1, q2⟩
  unfold i_law_machine
  have sm : smallI (n : Int) = true := small_nat (by omega)
  simp only [tstO_eq, x_seq, x_set, x_own, x_do, x_if, x_for, x_whl, x_ret, x_retN, x_pass, x_brk, x_cnt, x_rse, x_fgt, x_frz, x_retp, x_app, x_aug, x_unp, x_put, e_v, e_pk, e_k, e_gl, e_b, e_neg, e_cmp, e_and, e_or, e_not, e_ife, e_tup, e_lst, e_dct, e_dct1, e_lset, e_ix, e_sl, e_rv, rv_lst, e_out, e_bi, e_me, e_call, e_comp, es_nil, es_cons, i_ex, i_rng1, i_rng2, i_zip, i_rev, valO_ok, pkO_ok, glO_ok, negO_ok, frzO_ok, retO_ok, augO_add, augO_sub, appO_ok, unpO_ok, walkO_lst, walkO_tup, walkO_str, rng1O_ok, rng2O_ok, zipO_ok, zipI_ok, revO_ok, asB_ok, items_lst, items_tup, items_str, bindT_one, bindT_tup, setAll_nil, setAll_cons, forget_nil, forget_cons, prt_int, prt_out, isOut, keepOk_nil, keepOk_cons, recv_str, b_add, b_sub, c_lt, c_le, c_gt, c_ge, c_ltS, c_gtS, c_eqI, c_neI, c_eqS, c_neS, c_eqB, c_neB, c_isn, c_isnt, c_memS, c_nmemS, sl_lst, len_lst, len_tup, is_str, is_intI, is_boolI, is_boolB, tuple_lst, list_lst, list_tup, find_one, seqO_nx, seqO_no, seqO_rt, seqO_ex, seqO_bk, seqO_ct, seqO_seqO, seqO_ite, x_nil, sat_nx, sat_rt, sat_ex, sat_thru, sat_thru_ct, sat_nxt, sat_t1, sat_t1c, sat_t1r, sat_t1e, Rs.bind_ok, Rs.bind_ex, Rs.out_ok, Rs.out_ex, List.set_cons_succ, List.set_cons_zero, List.getElem?_cons_succ, List.getElem?_cons_zero, List.map_cons, List.map_nil, List.cons_append, List.nil_append, startG, List.reduceReplicate, List.length_cons, List.length_nil, Nat.reduceAdd, Nat.reduceSub, Nat.zero_add, Nat.add_zero, Nat.zero_le, Nat.reduceLeDiff, List.append_nil, reduceCtorEq, if_true, if_false, ite_true, ite_false, ne_eq, not_false_eq_true, not_true_eq_false, decide_true, decide_false, decide_not, Bool.not_true, Bool.not_false, Bool.and_true, Bool.true_and, Bool.and_self, Bool.false_eq_true, and_self, and_true, true_and, decide_eq_true_eq, Int.reduceEq, Int.reduceNe, Int.reduceLT, Int.reduceLE, Int.reduceNeg, Int.reduceAdd, Int.reduceSub, tgSlots, freeAt, List.all_cons, List.all_nil, rng1O_ok sm]
  refine for_ix (fun i G => ∃ (rows : List (List Nat)) (marks : List Bool) (x : Int) (t7 t8 t10 : Option (Bool × RA.D)), G = [some (false, .lst (ns.map .int)), some (false, .int k), some (false, .int n), some (false, .str s), some (true, .lst (rows.map fun r => .tup (r.map fun (i : Nat) => .int i))), some (true, .lst (marks.map .bl)), some (false, .int x), t7, t8, none, t10] ∧ 0 ≤ x ∧ x < 2147483647 ∧ rows.length = i ∧ marks.length = i ∧ ∀ r ∈ rows, r.length = s.length ∧ ∀ j ∈ r, j < n) ?_ ?_ ?_
  · exact ⟨[], [], 0, none, none, none, rfl, by omega, by omega, rfl, rfl, fun r hr => by cases hr⟩
  · rintro i d G hd ⟨rows, marks, x, t7, t8, t10, rfl, x0, x1, lr, lm, hrows⟩
    obtain ⟨rfl, hi⟩ := range_get hd
    refine ⟨_, rfl, ?_⟩
    have c := cell_at_ok ns (k + i)
    have c : m_law_cell_at [.lst (ns.map .int), .int ((k : Int) + (0 + (i : Int)))] = .ok (false, .int (ns.getD (k + i) 0)) := by
      have ek : (k : Int) + (0 + (i : Int)) = ((k + i : Nat) : Int) := by omega
      rw [ek]; exact c
    generalize ns.getD (k + i) 0 = z at c
    have g1 : binD .mul (.int x) (.int x) = .ok (.val, .int (x * x)) := b_mulR x0 (by omega)
    have g2 : binD .pow (.int 10) (.int 9) = .ok (.val, .int (10 ^ 9)) := rfl
    have g3 : binD .mod (.int z) (.int (10 ^ 9)) = .ok (.val, .int (z % 10 ^ 9)) := b_mod (by decide)
    have g4 : binD .mul (.int 48271) (.int (z % 10 ^ 9)) = .ok (.val, .int (48271 * (z % 10 ^ 9))) := b_mulL (by omega) (by omega)
    have g5 : binD .mod (.int (x * x + 48271 * (z % 10 ^ 9) + (0 + (i : Int)))) (.int 2147483647) = .ok (.val, .int ((x * x + 48271 * (z % 10 ^ 9) + (0 + (i : Int))) % 2147483647)) := b_mod (by omega)
    have y0 := Int.emod_nonneg (x * x + 48271 * (z % 10 ^ 9) + (0 + (i : Int))) (show (2147483647 : Int) ≠ 0 by omega)
    have y1 := Int.emod_lt_of_pos (x * x + 48271 * (z % 10 ^ 9) + (0 + (i : Int))) (show (0 : Int) < 2147483647 by omega)
    generalize (x * x + 48271 * (z % 10 ^ 9) + (0 + (i : Int))) % 2147483647 = y at g5 y0 y1
    simp only [tstO_eq, x_seq, x_set, x_own, x_do, x_if, x_for, x_whl, x_ret, x_retN, x_pass, x_brk, x_cnt, x_rse, x_fgt, x_frz, x_retp, x_app, x_aug, x_unp, x_put, e_v, e_pk, e_k, e_gl, e_b, e_neg, e_cmp, e_and, e_or, e_not, e_ife, e_tup, e_lst, e_dct, e_dct1, e_lset, e_ix, e_sl, e_rv, rv_lst, e_out, e_bi, e_me, e_call, e_comp, es_nil, es_cons, i_ex, i_rng1, i_rng2, i_zip, i_rev, valO_ok, pkO_ok, glO_ok, negO_ok, frzO_ok, retO_ok, augO_add, augO_sub, appO_ok, unpO_ok, walkO_lst, walkO_tup, walkO_str, rng1O_ok, rng2O_ok, zipO_ok, zipI_ok, revO_ok, asB_ok, items_lst, items_tup, items_str, bindT_one, bindT_tup, setAll_nil, setAll_cons, forget_nil, forget_cons, prt_int, prt_out, isOut, keepOk_nil, keepOk_cons, recv_str, b_add, b_sub, c_lt, c_le, c_gt, c_ge, c_ltS, c_gtS, c_eqI, c_neI, c_eqS, c_neS, c_eqB, c_neB, c_isn, c_isnt, c_memS, c_nmemS, sl_lst, len_lst, len_tup, is_str, is_intI, is_boolI, is_boolB, tuple_lst, list_lst, list_tup, find_one, seqO_nx, seqO_no, seqO_rt, seqO_ex, seqO_bk, seqO_ct, seqO_seqO, seqO_ite, x_nil, sat_nx, sat_rt, sat_ex, sat_thru, sat_thru_ct, sat_nxt, sat_t1, sat_t1c, sat_t1r, sat_t1e, Rs.bind_ok, Rs.bind_ex, Rs.out_ok, Rs.out_ex, List.set_cons_succ, List.set_cons_zero, List.getElem?_cons_succ, List.getElem?_cons_zero, List.map_cons, List.map_nil, List.cons_append, List.nil_append, startG, List.reduceReplicate, List.length_cons, List.length_nil, Nat.reduceAdd, Nat.reduceSub, Nat.zero_add, Nat.add_zero, Nat.zero_le, Nat.reduceLeDiff, List.append_nil, reduceCtorEq, if_true, if_false, ite_true, ite_false, ne_eq, not_false_eq_true, not_true_eq_false, decide_true, decide_false, decide_not, Bool.not_true, Bool.not_false, Bool.and_true, Bool.true_and, Bool.and_self, Bool.false_eq_true, and_self, and_true, true_and, decide_eq_true_eq, Int.reduceEq, Int.reduceNe, Int.reduceLT, Int.reduceLE, Int.reduceNeg, Int.reduceAdd, Int.reduceSub, tgSlots, freeAt, List.all_cons, List.all_nil, f_law_machine_6, c, g1, g2, g3, g4, g5]
    refine for_ix (fun j G => ∃ (row : List Nat) (q : Int) (t10 : Option (Bool × RA.D)), G = [some (false, .lst (ns.map .int)), some (false, .int k), some (false, .int n), some (false, .str s), some (true, .lst (rows.map fun r => .tup (r.map fun (i : Nat) => .int i))), some (true, .lst (marks.map .bl)), some (false, .int y), some (false, .int (0 + (i : Int))), some (false, .int q), some (true, .lst (row.map fun (i : Nat) => .int i)), t10] ∧ row.length = j ∧ ∀ a ∈ row, a < n) ⟨[], y, t10, rfl, rfl, fun r hr => by cases hr⟩ ?_ ?_
    · rintro j d G hd ⟨row, q, t10, rfl, lrow, hrow⟩
      obtain ⟨c, hc, rfl⟩ := map_get hd
      refine ⟨_, rfl, ?_⟩
      obtain ⟨a, ea, ha⟩ := mod_ix (show 0 < n by omega) q
      have g6 : binD .mod (.int q) (.int n) = .ok (.val, .int a) := by rw [b_mod (by omega), ea]
      have g7 : binD .fdiv (.int q) (.int n) = .ok (.val, .int (q / n)) := b_fdiv (by omega) (by omega)
      have hj : j < s.length := by have := (List.getElem?_eq_some_iff.mp hc).1; exact this
      have g8 : (row.map fun (i : Nat) => RA.D.int i).length < sizeLine := line_lt (by rw [List.length_map]; have := L.le; omega)
      simp only [tstO_eq, x_seq, x_set, x_own, x_do, x_if, x_for, x_whl, x_ret, x_retN, x_pass, x_brk, x_cnt, x_rse, x_fgt, x_frz, x_retp, x_app, x_aug, x_unp, x_put, e_v, e_pk, e_k, e_gl, e_b, e_neg, e_cmp, e_and, e_or, e_not, e_ife, e_tup, e_lst, e_dct, e_dct1, e_lset, e_ix, e_sl, e_rv, rv_lst, e_out, e_bi, e_me, e_call, e_comp, es_nil, es_cons, i_ex, i_rng1, i_rng2, i_zip, i_rev, valO_ok, pkO_ok, glO_ok, negO_ok, frzO_ok, retO_ok, augO_add, augO_sub, appO_ok, unpO_ok, walkO_lst, walkO_tup, walkO_str, rng1O_ok, rng2O_ok, zipO_ok, zipI_ok, revO_ok, asB_ok, items_lst, items_tup, items_str, bindT_one, bindT_tup, setAll_nil, setAll_cons, forget_nil, forget_cons, prt_int, prt_out, isOut, keepOk_nil, keepOk_cons, recv_str, b_add, b_sub, c_lt, c_le, c_gt, c_ge, c_ltS, c_gtS, c_eqI, c_neI, c_eqS, c_neS, c_eqB, c_neB, c_isn, c_isnt, c_memS, c_nmemS, sl_lst, len_lst, len_tup, is_str, is_intI, is_boolI, is_boolB, tuple_lst, list_lst, list_tup, find_one, seqO_nx, seqO_no, seqO_rt, seqO_ex, seqO_bk, seqO_ct, seqO_seqO, seqO_ite, x_nil, sat_nx, sat_rt, sat_ex, sat_thru, sat_thru_ct, sat_nxt, sat_t1, sat_t1c, sat_t1r, sat_t1e, Rs.bind_ok, Rs.bind_ex, Rs.out_ok, Rs.out_ex, List.set_cons_succ, List.set_cons_zero, List.getElem?_cons_succ, List.getElem?_cons_zero, List.map_cons, List.map_nil, List.cons_append, List.nil_append, startG, List.reduceReplicate, List.length_cons, List.length_nil, Nat.reduceAdd, Nat.reduceSub, Nat.zero_add, Nat.add_zero, Nat.zero_le, Nat.reduceLeDiff, List.append_nil, reduceCtorEq, if_true, if_false, ite_true, ite_false, ne_eq, not_false_eq_true, not_true_eq_false, decide_true, decide_false, decide_not, Bool.not_true, Bool.not_false, Bool.and_true, Bool.true_and, Bool.and_self, Bool.false_eq_true, and_self, and_true, true_and, decide_eq_true_eq, Int.reduceEq, Int.reduceNe, Int.reduceLT, Int.reduceLE, Int.reduceNeg, Int.reduceAdd, Int.reduceSub, tgSlots, freeAt, List.all_cons, List.all_nil, g6, g7, g8]
      refine ⟨row ++ [a], _, _, by rw [List.map_append]; rfl, by simp [lrow], fun b hb => ?_⟩
      rcases List.mem_append.mp hb with z | z
      · exact hrow b z
      · rw [List.mem_singleton.mp z]; exact ha
    · rintro G ⟨row, q, t10, rfl, lrow, hrow⟩
      have g6 : binD .mod (.int q) (.int 2) = .ok (.val, .int (q % 2)) := b_mod (by omega)
      have g8 : (rows.map fun r => RA.D.tup (r.map fun (i : Nat) => .int i)).length < sizeLine := line_lt (by rw [List.length_map]; omega)
      have g9 : (marks.map RA.D.bl).length < sizeLine := line_lt (by rw [List.length_map]; omega)
      simp only [tstO_eq, x_seq, x_set, x_own, x_do, x_if, x_for, x_whl, x_ret, x_retN, x_pass, x_brk, x_cnt, x_rse, x_fgt, x_frz, x_retp, x_app, x_aug, x_unp, x_put, e_v, e_pk, e_k, e_gl, e_b, e_neg, e_cmp, e_and, e_or, e_not, e_ife, e_tup, e_lst, e_dct, e_dct1, e_lset, e_ix, e_sl, e_rv, rv_lst, e_out, e_bi, e_me, e_call, e_comp, es_nil, es_cons, i_ex, i_rng1, i_rng2, i_zip, i_rev, valO_ok, pkO_ok, glO_ok, negO_ok, frzO_ok, retO_ok, augO_add, augO_sub, appO_ok, unpO_ok, walkO_lst, walkO_tup, walkO_str, rng1O_ok, rng2O_ok, zipO_ok, zipI_ok, revO_ok, asB_ok, items_lst, items_tup, items_str, bindT_one, bindT_tup, setAll_nil, setAll_cons, forget_nil, forget_cons, prt_int, prt_out, isOut, keepOk_nil, keepOk_cons, recv_str, b_add, b_sub, c_lt, c_le, c_gt, c_ge, c_ltS, c_gtS, c_eqI, c_neI, c_eqS, c_neS, c_eqB, c_neB, c_isn, c_isnt, c_memS, c_nmemS, sl_lst, len_lst, len_tup, is_str, is_intI, is_boolI, is_boolB, tuple_lst, list_lst, list_tup, find_one, seqO_nx, seqO_no, seqO_rt, seqO_ex, seqO_bk, seqO_ct, seqO_seqO, seqO_ite, x_nil, sat_nx, sat_rt, sat_ex, sat_thru, sat_thru_ct, sat_nxt, sat_t1, sat_t1c, sat_t1r, sat_t1e, Rs.bind_ok, Rs.bind_ex, Rs.out_ok, Rs.out_ex, List.set_cons_succ, List.set_cons_zero, List.getElem?_cons_succ, List.getElem?_cons_zero, List.map_cons, List.map_nil, List.cons_append, List.nil_append, startG, List.reduceReplicate, List.length_cons, List.length_nil, Nat.reduceAdd, Nat.reduceSub, Nat.zero_add, Nat.add_zero, Nat.zero_le, Nat.reduceLeDiff, List.append_nil, reduceCtorEq, if_true, if_false, ite_true, ite_false, ne_eq, not_false_eq_true, not_true_eq_false, decide_true, decide_false, decide_not, Bool.not_true, Bool.not_false, Bool.and_true, Bool.true_and, Bool.and_self, Bool.false_eq_true, and_self, and_true, true_and, decide_eq_true_eq, Int.reduceEq, Int.reduceNe, Int.reduceLT, Int.reduceLE, Int.reduceNeg, Int.reduceAdd, Int.reduceSub, tgSlots, freeAt, List.all_cons, List.all_nil, g6, g8, g9]
      refine ⟨rows ++ [row], marks ++ [decide (q % 2 = 1)], _, _, _, _, by rw [List.map_append, List.map_append]; rfl, y0, y1, by simp [lr], by simp [lm], fun r hr => ?_⟩
      rcases List.mem_append.mp hr with z | z
      · exact hrows r z
      · rw [List.mem_singleton.mp z]; exact ⟨by rw [lrow, List.length_map], hrow⟩
  · rintro G ⟨rows, marks, x, t7, t8, t10, rfl, x0, x1, lr, lm, hrows⟩
    have e : (rangeD 0 (n : Int)).length = n := by rw [range_len]; omega
    rw [e] at lr lm
    simp only [tstO_eq, x_seq, x_set, x_own, x_do, x_if, x_for, x_whl, x_ret, x_retN, x_pass, x_brk, x_cnt, x_rse, x_fgt, x_frz, x_retp, x_app, x_aug, x_unp, x_put, e_v, e_pk, e_k, e_gl, e_b, e_neg, e_cmp, e_and, e_or, e_not, e_ife, e_tup, e_lst, e_dct, e_dct1, e_lset, e_ix, e_sl, e_rv, rv_lst, e_out, e_bi, e_me, e_call, e_comp, es_nil, es_cons, i_ex, i_rng1, i_rng2, i_zip, i_rev, valO_ok, pkO_ok, glO_ok, negO_ok, frzO_ok, retO_ok, augO_add, augO_sub, appO_ok, unpO_ok, walkO_lst, walkO_tup, walkO_str, rng1O_ok, rng2O_ok, zipO_ok, zipI_ok, revO_ok, asB_ok, items_lst, items_tup, items_str, bindT_one, bindT_tup, setAll_nil, setAll_cons, forget_nil, forget_cons, prt_int, prt_out, isOut, keepOk_nil, keepOk_cons, recv_str, b_add, b_sub, c_lt, c_le, c_gt, c_ge, c_ltS, c_gtS, c_eqI, c_neI, c_eqS, c_neS, c_eqB, c_neB, c_isn, c_isnt, c_memS, c_nmemS, sl_lst, len_lst, len_tup, is_str, is_intI, is_boolI, is_boolB, tuple_lst, list_lst, list_tup, find_one, seqO_nx, seqO_no, seqO_rt, seqO_ex, seqO_bk, seqO_ct, seqO_seqO, seqO_ite, x_nil, sat_nx, sat_rt, sat_ex, sat_thru, sat_thru_ct, sat_nxt, sat_t1, sat_t1c, sat_t1r, sat_t1e, Rs.bind_ok, Rs.bind_ex, Rs.out_ok, Rs.out_ex, List.set_cons_succ, List.set_cons_zero, List.getElem?_cons_succ, List.getElem?_cons_zero, List.map_cons, List.map_nil, List.cons_append, List.nil_append, startG, List.reduceReplicate, List.length_cons, List.length_nil, Nat.reduceAdd, Nat.reduceSub, Nat.zero_add, Nat.add_zero, Nat.zero_le, Nat.reduceLeDiff, List.append_nil, reduceCtorEq, if_true, if_false, ite_true, ite_false, ne_eq, not_false_eq_true, not_true_eq_false, decide_true, decide_false, decide_not, Bool.not_true, Bool.not_false, Bool.and_true, Bool.true_and, Bool.and_self, Bool.false_eq_true, and_self, and_true, true_and, decide_eq_true_eq, Int.reduceEq, Int.reduceNe, Int.reduceLT, Int.reduceLE, Int.reduceNeg, Int.reduceAdd, Int.reduceSub, tgSlots, freeAt, List.all_cons, List.all_nil, Sat, fin]
    refine ⟨rows, marks, ?_, ⟨L, by omega, fun r hr => by rw [lr]; exact hrows r hr, by rw [lm, lr]⟩, lr⟩
    simp [mD]
end RA
/-! W3: one word ahead of another. -/
namespace RA
open PySem PySem.Spec PyProof.Rows L2
/- 31 earlier(letters, one, two); slots: 0=letters 1=one 2=two 3=left 4=right; calls: 9=check_letters 11=check_word -/
def f_earlier : FT := fun n ds => match n, ds with | 9, ds => m_check_letters ds | 11, ds => m_check_word ds | _, _ => .no
@[simp] theorem f_earlier_9 (ds : List RA.D) : f_earlier 9 ds = m_check_letters ds := (rfl)
@[simp] theorem f_earlier_11 (ds : List RA.D) : f_earlier 11 ds = m_check_word ds := (rfl)
/- 32 _law_earlier(_law_letters_here, _law_one, _law_two); slots: 0=_law_letters_here 1=_law_one 2=_law_two 3=_law_left 4=_law_right; calls:  -/
def i_law_earlier : IS := (.seq (.if_ (.cmp .ne (.bi .len (.cons (.v 1) .nil)) (.bi .len (.cons (.v 2) .nil))) (.seq (.ret (.cmp .lt (.bi .len (.cons (.v 1) .nil)) (.bi .len (.cons (.v 2) .nil)))) .nil) .nil) (.seq (.for_ (.tup [3, 4]) (.zip2 (.v 1) (.v 2)) (.seq (.if_ (.cmp .ne (.v 3) (.v 4)) (.seq (.ret (.cmp .lt (.me .find (.v 0) (.cons (.v 3) .nil)) (.me .find (.v 0) (.cons (.v 4) .nil)))) .nil) .nil) .nil)) (.seq (.ret (.k (.bl false))) .nil)))
def f_law_earlier : FT := fun _ _ => .no
def m_law_earlier : List RA.D → Rs (Bool × RA.D) := mk 3 5 f_law_earlier i_law_earlier
end RA
/-! W4: the order of words by their numbers; drawn machines. -/
namespace RA
open PySem PySem.Spec PyProof.Rows L2
/- 34 _law_long(_law_machine_here, _law_cell); slots: 0=_law_machine_here 1=_law_cell 2=_law_rooms 3=_law_place 4=_law_other 5=_law_ways 6=_law_k 7=_law_marks 8=_law_row 9=_law_goal; calls:  -/
def i_law_long : IS := (.seq (.set 2 (.bi .len (.cons (.ix (.v 0) (.k (.int 1))) .nil))) (.seq (.set 3 (.b .mod (.v 1) (.bi .len (.cons (.ix (.v 0) (.k (.int 0))) .nil)))) (.seq (.set 4 (.b .mod (.b .fdiv (.v 1) (.k (.int 3))) (.v 2))) (.seq (.own 5 (.lst .nil)) (.seq (.for_ (.one 6) (.rng1 (.v 2)) (.seq (.own 8 (.comp (.one 9) (.ex (.ix (.ix (.v 0) (.k (.int 1))) (.v 6))) (.k (.bl true)) (.b .mod (.v 9) (.b .add (.v 6) (.k (.int 1)))))) (.seq (.if_ (.cmp .lt (.b .add (.v 6) (.k (.int 1))) (.v 2)) (.seq (.put 8 (.v 3) (.b .add (.v 6) (.k (.int 1)))) .nil) .nil) (.seq (.app 5 (.bi .tuple (.cons (.pk 8) .nil))) (.seq (.fgt [8]) .nil))))) (.seq (.set 7 (.comp (.one 6) (.rng1 (.v 2)) (.k (.bl true)) (.or_ (.cmp .eq (.v 6) (.b .sub (.v 2) (.k (.int 1)))) (.and_ (.cmp .eq (.b .mod (.b .fdiv (.b .fdiv (.v 1) (.k (.int 3))) (.v 2)) (.k (.int 2))) (.k (.int 1))) (.cmp .eq (.v 6) (.v 4)))))) (.seq (.ret (.tup (.cons (.ix (.v 0) (.k (.int 0))) (.cons (.bi .tuple (.cons (.pk 5) .nil)) (.cons (.bi .tuple (.cons (.v 7) .nil)) .nil))))) .nil)))))))
def f_law_long : FT := fun _ _ => .no
def m_law_long : List RA.D → Rs (Bool × RA.D) := mk 2 10 f_law_long i_law_long
/- 35 _law_twins(_law_machine_here, _law_cell); slots: 0=_law_machine_here 1=_law_cell 2=_law_ways 3=_law_marks 4=_law_number 5=_law_k; calls:  -/
def i_law_twins : IS := (.seq (.own 2 (.bi .list (.cons (.ix (.v 0) (.k (.int 1))) .nil))) (.seq (.own 3 (.bi .list (.cons (.ix (.v 0) (.k (.int 2))) .nil))) (.seq (.set 4 (.b .mod (.v 1) (.k (.int 2147483647)))) (.seq (.for_ (.one 5) (.rng2 (.k (.int 1)) (.bi .len (.cons (.pk 2) .nil))) (.seq (.set 4 (.b .mod (.b .add (.b .add (.b .mul (.v 4) (.v 4)) (.b .mul (.k (.int 69621)) (.v 4))) (.v 5)) (.k (.int 2147483629)))) (.seq (.if_ (.cmp .eq (.b .mod (.v 4) (.k (.int 3))) (.k (.int 1))) (.seq (.put 2 (.v 5) (.ix (.pk 2) (.b .mod (.b .fdiv (.v 4) (.k (.int 3))) (.v 5)))) (.seq (.put 3 (.v 5) (.ix (.pk 3) (.b .mod (.b .fdiv (.v 4) (.k (.int 3))) (.v 5)))) .nil)) .nil) .nil))) (.seq (.ret (.tup (.cons (.ix (.v 0) (.k (.int 0))) (.cons (.bi .tuple (.cons (.pk 2) .nil)) (.cons (.bi .tuple (.cons (.pk 3) .nil)) .nil))))) .nil)))))
def f_law_twins : FT := fun _ _ => .no
def m_law_twins : List RA.D → Rs (Bool × RA.D) := mk 2 6 f_law_twins i_law_twins
/- 36 _law_some(_law_script, _law_rooms, _law_letters_here); slots: 0=_law_script 1=_law_rooms 2=_law_letters_here 3=_law_machine_here 4=_law_kind; calls: 23=law_machine 6=law_cell_at 34=law_long 35=law_twins -/
def f_law_some : FT := fun n ds => match n, ds with | 23, ds => m_law_machine ds | 6, ds => m_law_cell_at ds | 34, ds => m_law_long ds | 35, ds => m_law_twins ds | _, _ => .no
@[simp] theorem f_law_some_23 (ds : List RA.D) : f_law_some 23 ds = m_law_machine ds := (rfl)
@[simp] theorem f_law_some_6 (ds : List RA.D) : f_law_some 6 ds = m_law_cell_at ds := (rfl)
@[simp] theorem f_law_some_34 (ds : List RA.D) : f_law_some 34 ds = m_law_long ds := (rfl)
@[simp] theorem f_law_some_35 (ds : List RA.D) : f_law_some 35 ds = m_law_twins ds := (rfl)
theorem Ov.head {s w : List Nat} {c : Nat} (h : Ov s (c :: w)) : c ∈ s := h c List.mem_cons_self
theorem Ov.tail {s w : List Nat} {c : Nat} (h : Ov s (c :: w)) : Ov s w := fun x hx => h x (List.mem_cons_of_mem _ hx)
/-! ### comprehensions of lists that are told by others -/
theorem comp_list {α : Type} {t : Ev → Rs Bool} {e : Ev → Rs (Fl × RA.D)} {tg : Tg} {G : Ev} (f v : α → RA.D) : ∀ (xs : List α), (∀ x ∈ xs, ∃ G', bindT tg (f x) G = some G' ∧ t G' = .ok true ∧ ∃ fl, fl ≠ Fl.tmp ∧ e G' = .ok (fl, v x)) → compGo t e tg G (xs.map f) = .ok (xs.map v)
  | [], _ => rfl
  | x :: xs, h => by
    obtain ⟨G', h1, h2, fl, h3, h4⟩ := h x List.mem_cons_self
    have ih := comp_list f v xs fun d hd => h d (List.mem_cons_of_mem _ hd)
    rw [List.map_cons]
    unfold compGo
    rw [h1]
    dsimp only
    rw [h2, Rs.bind_ok, if_pos rfl, h4, Rs.bind_ok, if_neg h3, ih, Rs.bind_ok, List.map_cons]
end RA
/-! W5: first words. -/
namespace RA
open PySem PySem.Spec PyProof.Rows L2
/- 37 first_words(machine); slots: 0=machine 1=letters 2=seen 3=found 4=at 5=room 6=word 7=sign 8=goal; calls:  -/
def i_first_words : IS := (.seq (.set 1 (.ix (.v 0) (.k (.int 0)))) (.seq (.own 2 (.dct (.cons (.k (.int 0)) .nil) (.cons (.k (.bl true)) .nil))) (.seq (.own 3 (.lst (.cons (.tup (.cons (.k (.int 0)) (.cons (.k (.str [])) .nil))) .nil))) (.seq (.set 4 (.k (.int 0))) (.seq (.whl (.cmp .lt (.v 4) (.bi .len (.cons (.pk 3) .nil))) (.seq (.unp [5, 6] (.ix (.pk 3) (.v 4))) (.seq (.for_ (.tup [7, 8]) (.zip2 (.v 1) (.ix (.ix (.v 0) (.k (.int 1))) (.v 5))) (.seq (.if_ (.cmp .nmem (.v 8) (.pk 2)) (.seq (.put 2 (.v 8) (.k (.bl true))) (.seq (.app 3 (.tup (.cons (.v 8) (.cons (.b .add (.v 6) (.v 7)) .nil)))) .nil)) .nil) .nil)) (.seq (.set 4 (.b .add (.v 4) (.k (.int 1)))) .nil)))) (.seq (.retp 3) .nil))))))
def f_first_words : FT := fun _ _ => .no
def m_first_words : List RA.D → Rs (Bool × RA.D) := mk 1 9 f_first_words i_first_words
/- 38 _law_after(_law_machine_here, _law_room, _law_word); slots: 0=_law_machine_here 1=_law_room 2=_law_word 3=_law_sign; calls:  -/
theorem bij_nn {s w : List Nat} (h : Ltrs s) (hw : Ov s w) : 0 ≤ bij s w := by
  have h1 := (bij_rng h hw).1
  have h2 := geo_le (n := (s.length : Int)) (by have := h.pos; omega) (Nat.zero_le w.length)
  have h3 : geo (s.length : Int) 0 = 0 := rfl
  omega
theorem find_pos {s : List Nat} (h : s.Nodup) {k c : Nat} (e : s[k]? = some c) : findL s c = k := by
  obtain ⟨i, e1, h1, g1⟩ := find_in (List.mem_of_getElem? e)
  obtain ⟨h2, g2⟩ := List.getElem?_eq_some_iff.mp e
  obtain ⟨h3, g3⟩ := List.getElem?_eq_some_iff.mp g1
  have : i = k := by
    rcases Nat.lt_trichotomy i k with z | z | z
    · exact absurd (g3.trans g2.symm) (List.pairwise_iff_getElem.mp h i k h3 h2 z)
    · exact z
    · exact absurd (g2.trans g3.symm) (List.pairwise_iff_getElem.mp h k i h2 h3 z)
  rw [e1, this]
theorem nodup_le : ∀ (n : Nat) (l : List Nat), l.Nodup → (∀ x ∈ l, x < n) → l.length ≤ n
  | 0, l, _, h => by
    cases l with
    | nil => exact Nat.le_refl _
    | cons a l => exact absurd (h a List.mem_cons_self) (Nat.not_lt_zero _)
  | n + 1, l, nd, h => by
    by_cases q : n ∈ l
    · have ih := nodup_le n (l.erase n) (nd.erase n) fun x hx => by
        have h1 := nd.mem_erase_iff.mp hx
        have := h x h1.2
        omega
      rw [List.length_erase_of_mem q] at ih
      omega
    · have ih := nodup_le n l nd fun x hx => by
        have := h x hx
        have : x ≠ n := fun z => q (z ▸ hx)
        omega
      omega
abbrev Fnd := List (Nat × List Nat)
structure FwI (s : List Nat) (rows : List (List Nat)) (found : Fnd) (at' j : Nat) : Prop where
  hd : found[0]? = some (0, [])
  nd : (found.map (·.1)).Nodup
  it : ∀ p ∈ found, p.1 < rows.length ∧ Ov s p.2 ∧ lead s rows 0 p.2 = p.1 ∧ p.2.length < found.length
  srt : found.Pairwise fun p q => bij s p.2 < bij s q.2
  cl : ∀ (i : Nat) (p : Nat × List Nat), found[i]? = some p → ∀ (k c : Nat), s[k]? = some c → (i < at' ∨ (i = at' ∧ k < j)) → ∃ w, (way s rows p.1 c, w) ∈ found ∧ bij s w ≤ bij s (p.2 ++ [c])
  fr : ∀ p ∈ found, p.2 = [] ∨ ∃ (i : Nat) (q : Nat × List Nat) (k c : Nat), found[i]? = some q ∧ s[k]? = some c ∧ (i < at' ∨ (i = at' ∧ k < j)) ∧ p.2 = q.2 ++ [c]
section
variable {s : List Nat} {rows : List (List Nat)} {marks : List Bool} {found : Fnd} {at' j : Nat}
theorem FwI.len (I : FwI s rows found at' j) : found.length ≤ rows.length := by
  have := nodup_le rows.length _ I.nd fun x hx => by
    obtain ⟨p, hp, rfl⟩ := List.mem_map.mp hx
    exact (I.it p hp).1
  rwa [List.length_map] at this
end
end RA
/-! B1: plain: words of places, rows of states in the order of their first words. -/
namespace RA
/-- the number of a word of places, of m -/
def num (m : Nat) (w : List Nat) : Nat := w.foldl (fun n k => n * m + k + 1) 0
theorem num_nil {m : Nat} : num m [] = 0 := rfl
theorem num_snoc {m : Nat} {w : List Nat} {k : Nat} : num m (w ++ [k]) = num m w * m + k + 1 := by unfold num; rw [List.foldl_append]; rfl
/-- a word over m places -/
def Wd (m : Nat) (w : List Nat) : Prop := ∀ k ∈ w, k < m
theorem Wd.nil {m : Nat} : Wd m [] := fun k h => by cases h
theorem Wd.snoc {m : Nat} {w : List Nat} {k : Nat} (h : Wd m w) (hk : k < m) : Wd m (w ++ [k]) := fun x hx => by
  rcases List.mem_append.mp hx with z | z
  · exact h x z
  · rw [List.mem_singleton.mp z]; exact hk
theorem Wd.app {m : Nat} {u w : List Nat} (h : Wd m u) (g : Wd m w) : Wd m (u ++ w) := fun x hx => (List.mem_append.mp hx).elim (h x) (g x)
theorem Wd.left {m : Nat} {u w : List Nat} (h : Wd m (u ++ w)) : Wd m u := fun x hx => h x (List.mem_append_left _ hx)
theorem Wd.last {m : Nat} {w : List Nat} {k : Nat} (h : Wd m (w ++ [k])) : k < m := h k (List.mem_append_right _ (List.mem_singleton.mpr rfl))
theorem Wd.cons {m : Nat} {w : List Nat} {k : Nat} (h : Wd m w) (hk : k < m) : Wd m (k :: w) := fun x hx => by
  rcases List.mem_cons.mp hx with z | z
  · rw [z]; exact hk
  · exact h x z
theorem Wd.head {m : Nat} {w : List Nat} {k : Nat} (h : Wd m (k :: w)) : k < m := h k List.mem_cons_self
theorem Wd.tail {m : Nat} {w : List Nat} {k : Nat} (h : Wd m (k :: w)) : Wd m w := fun x hx => h x (List.mem_cons_of_mem _ hx)
theorem num_le_snoc {m : Nat} {u w : List Nat} {k : Nat} (h : num m u ≤ num m w) : num m (u ++ [k]) ≤ num m (w ++ [k]) := by
  rw [num_snoc, num_snoc]
  have := Nat.mul_le_mul_right m h
  omega
theorem num_lt_snoc {m : Nat} {u w : List Nat} {i k : Nat} (hi : i < m) (h : num m u < num m w) : num m (u ++ [i]) < num m (w ++ [k]) := by
  rw [num_snoc, num_snoc]
  have := Nat.mul_le_mul_right m (Nat.succ_le_of_lt h)
  rw [Nat.succ_mul] at this
  omega
theorem num_pos {m : Nat} (hm : 0 < m) (w : List Nat) (k : Nat) : num m w < num m (w ++ [k]) := by
  rw [num_snoc]
  have := Nat.le_mul_of_pos_right (num m w) hm
  omega
theorem snoc_ind {α : Type} {P : List α → Prop} (h0 : P []) (h1 : ∀ w k, P w → P (w ++ [k])) : ∀ w, P w := by
  have : ∀ n w, w.length = n → P w := by
    intro n
    induction n with
    | zero => intro w e; rw [List.eq_nil_of_length_eq_zero e]; exact h0
    | succ n ih =>
      intro w e
      have ne : w ≠ [] := fun z => by rw [z] at e; cases e
      rw [← List.dropLast_concat_getLast ne]
      exact h1 _ _ (ih _ (by rw [List.length_dropLast]; omega))
  exact fun w => this _ w rfl
theorem num_inj {m : Nat} : ∀ {u w : List Nat}, Wd m u → Wd m w → num m u = num m w → u = w := by
  intro u
  refine snoc_ind (P := fun u => ∀ {w : List Nat}, Wd m u → Wd m w → num m u = num m w → u = w) ?_ ?_ u
  · intro w
    refine snoc_ind (P := fun w => Wd m [] → Wd m w → num m [] = num m w → [] = w) (fun _ _ _ => rfl) (fun w k _ _ _ e => ?_) w
    rw [num_snoc, num_nil] at e; omega
  · intro u i ih w
    refine snoc_ind (P := fun w => Wd m (u ++ [i]) → Wd m w → num m (u ++ [i]) = num m w → u ++ [i] = w) (fun _ _ e => ?_) (fun w k _ hu hw e => ?_) w
    · rw [num_snoc, num_nil] at e; omega
    · have hi := hu.last
      have hk := hw.last
      rcases Nat.lt_trichotomy (num m u) (num m w) with z | z | z
      · have := num_lt_snoc (k := k) hi z; omega
      · have := ih hu.left hw.left z
        subst this
        rw [num_snoc, num_snoc] at e
        have : i = k := by omega
        rw [this]
      · have := num_lt_snoc (k := i) hk z; omega
theorem nodupLe : ∀ (n : Nat) (l : List Nat), l.Nodup → (∀ x ∈ l, x < n) → l.length ≤ n
  | 0, l, _, h => by
    cases l with
    | nil => exact Nat.le_refl _
    | cons a l => exact absurd (h a List.mem_cons_self) (Nat.not_lt_zero _)
  | n + 1, l, nd, h => by
    by_cases q : n ∈ l
    · have ih := nodupLe n (l.erase n) (nd.erase n) fun x hx => by
        have h1 := nd.mem_erase_iff.mp hx
        have := h x h1.2
        omega
      rw [List.length_erase_of_mem q] at ih
      omega
    · have ih := nodupLe n l nd fun x hx => by
        have := h x hx
        have : x ≠ n := fun z => q (z ▸ hx)
        omega
      omega
/-! ### rows of states -/
section
variable {α : Type}
/-- what a word leads to -/
abbrev goes (st : α → Nat → α) (a : α) (w : List Nat) : α := w.foldl st a
theorem goes_snoc {st : α → Nat → α} {a : α} {w : List Nat} {k : Nat} : goes st a (w ++ [k]) = st (goes st a w) k := by unfold goes; rw [List.foldl_append]; rfl
theorem goes_app {st : α → Nat → α} {a : α} {u w : List Nat} : goes st a (u ++ w) = goes st (goes st a u) w := List.foldl_append
/-- the row of states with their first words, gone through up to the state at i, its letter j -/
structure Bfs (m : Nat) (st : α → Nat → α) (a0 : α) (f : List (α × List Nat)) (i j : Nat) : Prop where
  hd : f[0]? = some (a0, [])
  nd : (f.map (·.1)).Nodup
  it : ∀ p ∈ f, Wd m p.2 ∧ goes st a0 p.2 = p.1 ∧ p.2.length < f.length
  srt : f.Pairwise fun p q => num m p.2 < num m q.2
  cl : ∀ (i' : Nat) (p : α × List Nat), f[i']? = some p → ∀ k < m, (i' < i ∨ (i' = i ∧ k < j)) → ∃ w, (st p.1 k, w) ∈ f ∧ num m w ≤ num m (p.2 ++ [k])
  fr : ∀ p ∈ f, p.2 = [] ∨ ∃ (i' : Nat) (q : α × List Nat) (k : Nat), f[i']? = some q ∧ k < m ∧ (i' < i ∨ (i' = i ∧ k < j)) ∧ p.2 = q.2 ++ [k]
variable {m : Nat} {st : α → Nat → α} {a0 : α} {f : List (α × List Nat)} {i j : Nat} {p : α × List Nat}
theorem Bfs.start : Bfs m st a0 [(a0, [])] 0 0 := by
  refine ⟨rfl, by simp, fun p hp => ?_, List.pairwise_singleton _ _, fun i' p h k hk z => by omega, fun p hp => .inl (by rw [List.mem_singleton.mp hp])⟩
  rw [List.mem_singleton.mp hp]
  exact ⟨Wd.nil, rfl, by simp⟩
theorem Bfs.fresh (I : Bfs m st a0 f i j) (hj : j < m) (hp : f[i]? = some p) : ∀ q ∈ f, num m q.2 < num m (p.2 ++ [j]) := by
  intro q hq
  rcases I.fr q hq with e | ⟨i', r, k, h1, h2, h3, e⟩
  · rw [e, num_snoc, num_nil]; omega
  · rw [e]
    rcases h3 with h3 | ⟨rfl, h3⟩
    · obtain ⟨l1, e1⟩ := List.getElem?_eq_some_iff.mp h1
      obtain ⟨l2, e2⟩ := List.getElem?_eq_some_iff.mp hp
      have := List.pairwise_iff_getElem.mp I.srt i' i l1 l2 h3
      rw [e1, e2] at this
      exact num_lt_snoc h2 this
    · rw [h1] at hp
      cases hp
      rw [num_snoc, num_snoc]; omega
theorem Bfs.old (I : Bfs m st a0 f i j) (hj : j < m) (hp : f[i]? = some p) (h : st p.1 j ∈ f.map (·.1)) : Bfs m st a0 f i (j + 1) := by
  refine ⟨I.hd, I.nd, I.it, I.srt, fun i' q hi k hk h' => ?_, fun q hq => (I.fr q hq).imp id fun ⟨i', r, k, h1, h2, h3, e⟩ => ⟨i', r, k, h1, h2, by omega, e⟩⟩
  by_cases z : i' < i ∨ (i' = i ∧ k < j)
  · exact I.cl i' q hi k hk z
  · have e1 : i' = i := by omega
    have e2 : k = j := by omega
    subst e1 e2
    rw [hi] at hp
    cases hp
    obtain ⟨r, hr, e⟩ := List.mem_map.mp h
    refine ⟨r.2, by rw [← e]; exact hr, ?_⟩
    have := I.fresh hj hi r hr
    omega
theorem Bfs.new (I : Bfs m st a0 f i j) (hj : j < m) (hp : f[i]? = some p) (h : st p.1 j ∉ f.map (·.1)) : Bfs m st a0 (f ++ [(st p.1 j, p.2 ++ [j])]) i (j + 1) := by
  have hat := (List.getElem?_eq_some_iff.mp hp).1
  obtain ⟨i1, i2, i3⟩ := I.it p (List.mem_of_getElem? hp)
  have up : ∀ {i' : Nat}, i' ≤ i → (f ++ [(st p.1 j, p.2 ++ [j])])[i']? = f[i']? := fun {i'} hi => List.getElem?_append_left (by omega)
  refine ⟨by rw [up (Nat.zero_le _)]; exact I.hd, ?_, fun q hq => ?_, ?_, fun i' q hi k hk h' => ?_, fun q hq => ?_⟩
  · rw [List.map_append, List.nodup_append]
    refine ⟨I.nd, by simp, fun a ha b hb => ?_⟩
    have : b = st p.1 j := by simpa using hb
    subst this
    exact fun z => h (z ▸ ha)
  · rw [List.length_append, List.length_singleton]
    rcases List.mem_append.mp hq with z | z
    · obtain ⟨k1, k2, k3⟩ := I.it q z
      exact ⟨k1, k2, by omega⟩
    · rw [List.mem_singleton.mp z]
      exact ⟨i1.snoc hj, by rw [goes_snoc, i2], by rw [List.length_append, List.length_singleton]; omega⟩
  · rw [List.pairwise_append]
    refine ⟨I.srt, List.pairwise_singleton _ _, fun a ha b hb => ?_⟩
    rw [List.mem_singleton.mp hb]
    exact I.fresh hj hp a ha
  · by_cases z : i' < i ∨ (i' = i ∧ k < j)
    · rw [up (by omega)] at hi
      obtain ⟨w, h1, h2⟩ := I.cl i' q hi k hk z
      exact ⟨w, List.mem_append_left _ h1, h2⟩
    · have e1 : i' = i := by omega
      have e2 : k = j := by omega
      subst e1 e2
      rw [up (Nat.le_refl _), hp] at hi
      cases hi
      exact ⟨p.2 ++ [k], List.mem_append_right _ (List.mem_singleton.mpr rfl), Nat.le_refl _⟩
  · rcases List.mem_append.mp hq with z | z
    · refine (I.fr q z).imp id fun ⟨i', r, k, h1, h2, h3, e⟩ => ⟨i', r, k, by rw [up (by omega)]; exact h1, h2, by omega, e⟩
    · rw [List.mem_singleton.mp z]
      exact .inr ⟨i, p, j, by rw [up (Nat.le_refl _)]; exact hp, hj, .inr ⟨rfl, Nat.lt_succ_self _⟩, rfl⟩
/-- one letter: what stands behind it -/
def bput [DecidableEq α] (st : α → Nat → α) (f : List (α × List Nat)) (p : α × List Nat) (j : Nat) : List (α × List Nat) := if st p.1 j ∈ f.map (·.1) then f else f ++ [(st p.1 j, p.2 ++ [j])]
theorem Bfs.put [DecidableEq α] (I : Bfs m st a0 f i j) (hj : j < m) (hp : f[i]? = some p) : Bfs m st a0 (bput st f p j) i (j + 1) ∧ (bput st f p j)[i]? = some p := by
  unfold bput
  split
  · rename_i h; exact ⟨I.old hj hp h, hp⟩
  · rename_i h; exact ⟨I.new hj hp h, by rw [List.getElem?_append_left (List.getElem?_eq_some_iff.mp hp).1]; exact hp⟩
theorem Bfs.next (I : Bfs m st a0 f i m) : Bfs m st a0 f (i + 1) 0 :=
  ⟨I.hd, I.nd, I.it, I.srt, fun i' q hi k hk h' => I.cl i' q hi k hk (by omega), fun q hq => (I.fr q hq).imp id fun ⟨i', r, k, h1, h2, h3, e⟩ => ⟨i', r, k, h1, h2, by omega, e⟩⟩
theorem Bfs.size (I : Bfs m st a0 f i j) (N : Nat) (code : α → Nat) (inj : ∀ a ∈ f.map (·.1), ∀ b ∈ f.map (·.1), code a = code b → a = b) (lt : ∀ a ∈ f.map (·.1), code a < N) : f.length ≤ N := by
  have nd : ((f.map (·.1)).map code).Nodup := by
    have := I.nd
    unfold List.Nodup at this ⊢
    rw [List.pairwise_map]
    exact List.Pairwise.imp_of_mem (fun {a b} ha hb h => fun z => h (inj a ha b hb z)) this
  have := nodupLe N _ nd fun x hx => by
    obtain ⟨a, ha, rfl⟩ := List.mem_map.mp hx
    exact lt a ha
  rwa [List.length_map, List.length_map] at this
theorem Bfs.mem (I : Bfs m st a0 f i j) : (a0, []) ∈ f := List.mem_of_getElem? I.hd
theorem Bfs.uniq (I : Bfs m st a0 f i j) {a : α} {u w : List Nat} (h1 : (a, u) ∈ f) (h2 : (a, w) ∈ f) : u = w := by
  obtain ⟨x, hx, e1⟩ := List.mem_iff_getElem.mp h1
  obtain ⟨y, hy, e2⟩ := List.mem_iff_getElem.mp h2
  have hx' : x < (f.map (·.1)).length := by rw [List.length_map]; exact hx
  have hy' : y < (f.map (·.1)).length := by rw [List.length_map]; exact hy
  have ex : (f.map (·.1))[x] = a := by rw [List.getElem_map, e1]
  have ey : (f.map (·.1))[y] = a := by rw [List.getElem_map, e2]
  have := List.pairwise_iff_getElem.mp I.nd
  have exy : x = y := by
    rcases Nat.lt_trichotomy x y with z | z | z
    · exact absurd (ex.trans ey.symm) (this x y hx' hy' z)
    · exact z
    · exact absurd (ey.trans ex.symm) (this y x hy' hx' z)
  subst exy
  rw [e1] at e2
  cases e2; rfl
/-- what stands ahead of the state at i has all the words that come before its word -/
theorem Bfs.before (I : Bfs m st a0 f i j) (hp : f[i]? = some p) : ∀ w : List Nat, Wd m w → num m w < num m p.2 → ∃ (i' : Nat) (u : List Nat), i' < i ∧ f[i']? = some (goes st a0 w, u) ∧ num m u ≤ num m w := by
  have at' : ∀ {q : α × List Nat}, q ∈ f → num m q.2 < num m p.2 → ∃ i' : Nat, i' < i ∧ f[i']? = some q := by
    intro q hq hl
    obtain ⟨x, hx, e⟩ := List.mem_iff_getElem.mp hq
    obtain ⟨y, ey⟩ := List.getElem?_eq_some_iff.mp hp
    refine ⟨x, ?_, by rw [List.getElem?_eq_getElem hx, e]⟩
    rcases Nat.lt_trichotomy x i with z | z | z
    · exact z
    · subst z; rw [e] at ey; subst ey; omega
    · have := List.pairwise_iff_getElem.mp I.srt i x y hx z
      rw [ey, e] at this; omega
  refine snoc_ind (fun _ h => ?_) fun w k ih hw hl => ?_
  · obtain ⟨i', h1, h2⟩ := at' I.mem h
    exact ⟨i', [], h1, h2, Nat.le_refl _⟩
  · have hk := hw.last
    obtain ⟨i', u, h1, h2, h3⟩ := ih hw.left (Nat.lt_of_lt_of_le (num_pos (by omega) w k) (Nat.le_of_lt hl))
    obtain ⟨v, h4, h5⟩ := I.cl i' _ h2 k hk (.inl h1)
    have h6 : num m v ≤ num m (w ++ [k]) := Nat.le_trans h5 (num_le_snoc h3)
    have h9 : num m v < num m p.2 := by omega
    obtain ⟨i2, h7, h8⟩ := at' h4 h9
    exact ⟨i2, v, h7, by rw [goes_snoc]; exact h8, h6⟩
/-- all gone through: each word leads to a state that is told, with a word that does not come after it -/
theorem Bfs.done (I : Bfs m st a0 f i j) (hi : f.length ≤ i) : ∀ w : List Nat, Wd m w → ∃ u, (goes st a0 w, u) ∈ f ∧ num m u ≤ num m w := by
  refine snoc_ind (fun _ => ⟨[], I.mem, Nat.le_refl _⟩) fun w k ih hw => ?_
  obtain ⟨u, h1, h2⟩ := ih hw.left
  obtain ⟨x, hx, e⟩ := List.mem_iff_getElem.mp h1
  obtain ⟨v, h4, h5⟩ := I.cl x _ (by rw [List.getElem?_eq_getElem hx, e]) k hw.last (.inl (by omega))
  exact ⟨v, by rw [goes_snoc]; exact h4, Nat.le_trans h5 (num_le_snoc h2)⟩
/-- each told word leads to its state, and is the first that does -/
theorem Bfs.first (I : Bfs m st a0 f i j) (hi : f.length ≤ i) {a : α} {u w : List Nat} (h : (a, u) ∈ f) (hw : Wd m w) (e : goes st a0 w = a) : num m u ≤ num m w := by
  obtain ⟨v, h1, h2⟩ := I.done hi w hw
  rw [e] at h1
  rw [I.uniq h h1]; exact h2
/-- states that some kind of words lead to -/
theorem Bfs.inv (I : Bfs m st a0 f i j) {P : α → Prop} (h0 : P a0) (h1 : ∀ a k, P a → k < m → P (st a k)) : ∀ q ∈ f, P q.1 := by
  have : ∀ w, Wd m w → P (goes st a0 w) := snoc_ind (fun _ => h0) fun w k ih hw => by rw [goes_snoc]; exact h1 _ _ (ih hw.left) hw.last
  intro q hq
  obtain ⟨a, b, _⟩ := I.it q hq
  rw [← b]; exact this _ a
end
end RA
/-! B2: plain: lots of rooms, round by round; least machines. -/
namespace RA
/-- the item at a place, of numbers -/
abbrev nth (l : List Nat) (i : Nat) : Nat := l.getD i 0
theorem nth_get {l : List Nat} {i : Nat} (h : i < l.length) : l[i]? = some (nth l i) := by
  unfold nth; rw [List.getD_eq_getElem?_getD, List.getElem?_eq_getElem h]; rfl
theorem nth_of {l : List Nat} {i x : Nat} (h : l[i]? = some x) : nth l i = x := by unfold nth; rw [List.getD_eq_getElem?_getD, h]; rfl
theorem nth_mem {l : List Nat} {i : Nat} (h : i < l.length) : nth l i ∈ l := List.mem_of_getElem? (nth_get h)
theorem nth_map {l : List Nat} {i : Nat} (f : Nat → Nat) (h : i < l.length) : nth (l.map f) i = f (nth l i) := nth_of (by rw [List.getElem?_map, nth_get h]; rfl)
theorem nth_app {l m : List Nat} {i : Nat} (h : i < l.length) : nth (l ++ m) i = nth l i := nth_of (by rw [List.getElem?_append_left h, nth_get h])
theorem nth_at {l : List Nat} {x : Nat} : nth (l ++ [x]) l.length = x := nth_of (by rw [List.getElem?_append_right (Nat.le_refl _), Nat.sub_self]; rfl)
theorem nth_ext {l l' : List Nat} (h : l.length = l'.length) (e : ∀ i < l.length, nth l i = nth l' i) : l = l' := by
  refine List.ext_getElem? fun i => ?_
  by_cases hi : i < l.length
  · rw [nth_get hi, nth_get (by omega), e i hi]
  · rw [List.getElem?_eq_none (by omega), List.getElem?_eq_none (by omega)]
/-- the greatest -/
def mx (l : List Nat) : Nat := l.foldl max 0
theorem mx_fold (l : List Nat) : ∀ x : Nat, x ≤ l.foldl max x ∧ (∀ y ∈ l, y ≤ l.foldl max x) ∧ (l.foldl max x = x ∨ l.foldl max x ∈ l) := by
  induction l with
  | nil => intro x; exact ⟨Nat.le_refl _, (fun y h => by cases h), .inl rfl⟩
  | cons a l ih =>
    intro x
    obtain ⟨h1, h2, h3⟩ := ih (max x a)
    rw [List.foldl_cons]
    refine ⟨Nat.le_trans (Nat.le_max_left _ _) h1, fun y hy => ?_, ?_⟩
    · rcases List.mem_cons.mp hy with rfl | hy
      · exact Nat.le_trans (Nat.le_max_right _ _) h1
      · exact h2 y hy
    · rcases h3 with h3 | h3
      · rcases Nat.le_total x a with z | z
        · rw [Nat.max_eq_right z] at h3 ⊢; exact .inr (by rw [h3]; exact List.mem_cons_self)
        · rw [Nat.max_eq_left z] at h3 ⊢; exact .inl h3
      · exact .inr (List.mem_cons_of_mem _ h3)
theorem mx_le {l : List Nat} {y : Nat} (h : y ∈ l) : y ≤ mx l := (mx_fold l 0).2.1 y h
theorem mx_nth {l : List Nat} {i : Nat} (h : i < l.length) : nth l i ≤ mx l := mx_le (nth_mem h)
theorem mx_mem {l : List Nat} (h : 0 < l.length) : mx l ∈ l := by
  rcases (mx_fold l 0).2.2 with z | z
  · have : mx l = 0 := z
    have h0 := mx_nth h
    have h1 := nth_mem h
    rw [this] at h0 ⊢
    rw [Nat.le_zero.mp h0] at h1; exact h1
  · exact z
theorem nth_ix {l : List Nat} {x : Nat} (h : x ∈ l) : ∃ i, i < l.length ∧ nth l i = x := by
  obtain ⟨i, hi, e⟩ := List.mem_iff_getElem.mp h
  exact ⟨i, hi, nth_of (by rw [List.getElem?_eq_getElem hi, e])⟩
theorem mx_at {l : List Nat} (h : 0 < l.length) : ∃ i, i < l.length ∧ nth l i = mx l := nth_ix (mx_mem h)
/-! ### numbers by first coming -/
/-- the numbers grow one by one -/
def Grw (l : List Nat) : Prop := ∀ i < l.length, ∀ x, nth l i = x + 1 → ∃ j, j < i ∧ nth l j = x
theorem Grw.all {l : List Nat} (h : Grw l) {i : Nat} (hi : i < l.length) : ∀ x ≤ nth l i, ∃ j, j ≤ i ∧ nth l j = x := by
  have : ∀ (d i : Nat), i < l.length → d ≤ nth l i → ∃ j, j ≤ i ∧ nth l j = nth l i - d := by
    intro d
    induction d with
    | zero => intro i _ _; exact ⟨i, Nat.le_refl _, rfl⟩
    | succ d ih =>
      intro i hi hd
      obtain ⟨j, h1, h2⟩ := ih i hi (by omega)
      obtain ⟨j2, h3, h4⟩ := h j (by omega) (nth l i - (d + 1)) (by omega)
      exact ⟨j2, by omega, h4⟩
  intro x hx
  obtain ⟨j, h1, h2⟩ := this (nth l i - x) i hi (by omega)
  exact ⟨j, h1, by omega⟩
theorem Grw.cov {l : List Nat} (h : Grw l) (h0 : 0 < l.length) : ∀ x ≤ mx l, ∃ j, j < l.length ∧ nth l j = x := fun x hx => by
  obtain ⟨i, hi, e⟩ := mx_at h0
  obtain ⟨j, h1, h2⟩ := h.all hi x (by omega)
  exact ⟨j, by omega, h2⟩
theorem Grw.zero {l : List Nat} (h : Grw l) (h0 : 0 < l.length) : nth l 0 = 0 := by
  obtain ⟨j, h1, h2⟩ := h.all h0 0 (Nat.zero_le _)
  rw [Nat.le_zero.mp h1] at h2; exact h2
theorem surj_inj {c : Nat} {φ : Nat → Nat} (sur : ∀ y < c, ∃ x, x < c ∧ φ x = y) {a b : Nat} (ha : a < c) (hb : b < c) (e : φ a = φ b) : a = b := by
  refine Classical.byContradiction fun ne => ?_
  have : ∀ y, ∃ x, y < c → x < c ∧ x ≠ a ∧ φ x = y := fun y => by
    by_cases hy : y < c
    · obtain ⟨x, h1, h2⟩ := sur y hy
      by_cases q : x = a
      · exact ⟨b, fun _ => ⟨hb, fun z => ne z.symm, by rw [← e, ← q, h2]⟩⟩
      · exact ⟨x, fun _ => ⟨h1, q, h2⟩⟩
    · exact ⟨0, fun z => absurd z hy⟩
  obtain ⟨g, hg⟩ := Classical.axiomOfChoice this
  have nd : ((List.range c).map fun y => if g y < a then g y else g y - 1).Nodup := by
    unfold List.Nodup
    rw [List.pairwise_map]
    refine List.Pairwise.imp_of_mem (fun {y z} hy hz h w => ?_) List.nodup_range
    obtain ⟨a1, a2, a3⟩ := hg y (List.mem_range.mp hy)
    obtain ⟨b1, b2, b3⟩ := hg z (List.mem_range.mp hz)
    have : g y = g z := by split at w <;> split at w <;> omega
    exact h (by rw [← a3, ← b3, this])
  have := nodupLe (c - 1) _ nd fun x hx => by
    obtain ⟨y, hy, rfl⟩ := List.mem_map.mp hx
    obtain ⟨a1, a2, a3⟩ := hg y (List.mem_range.mp hy)
    show (if g y < a then g y else g y - 1) < c - 1
    split <;> omega
  rw [List.length_map, List.length_range] at this
  omega
/-! ### agreeing rooms -/
section
variable {m n : Nat} {go : Nat → Nat → Nat} {mk : Nat → Bool}
def agree (m : Nat) (go : Nat → Nat → Nat) (mk : Nat → Bool) (l p q : Nat) : Prop := ∀ w, Wd m w → w.length ≤ l → mk (goes go p w) = mk (goes go q w)
def alike (m : Nat) (go : Nat → Nat → Nat) (mk : Nat → Bool) (p q : Nat) : Prop := ∀ w, Wd m w → mk (goes go p w) = mk (goes go q w)
theorem agree_succ {l p q : Nat} : agree m go mk (l + 1) p q ↔ agree m go mk l p q ∧ ∀ k < m, agree m go mk l (go p k) (go q k) := by
  refine ⟨fun h => ⟨fun w hw hl => h w hw (by omega), fun k hk w hw hl => h (k :: w) (hw.cons hk) (by rw [List.length_cons]; omega)⟩, fun ⟨h1, h2⟩ w hw hl => ?_⟩
  cases w with
  | nil => exact h1 [] hw (Nat.zero_le _)
  | cons k w => exact h2 k hw.head w hw.tail (by rw [List.length_cons] at hl; omega)
theorem alike.stp {p q k : Nat} (h : alike m go mk p q) (hk : k < m) : alike m go mk (go p k) (go q k) := fun w hw => h (k :: w) (hw.cons hk)
theorem alike.far {p q : Nat} (h : alike m go mk p q) {w : List Nat} (hw : Wd m w) : alike m go mk (goes go p w) (goes go q w) := fun v hv => by
  rw [← goes_app, ← goes_app]; exact h _ (hw.app hv)
theorem alike.symm {p q : Nat} (h : alike m go mk p q) : alike m go mk q p := fun w hw => (h w hw).symm
/-- closed: the rooms are 0 .. n - 1 -/
def Clo (m n : Nat) (go : Nat → Nat → Nat) : Prop := ∀ r < n, ∀ k < m, go r k < n
theorem Clo.goes (C : Clo m n go) {r : Nat} (hr : r < n) : ∀ {w : List Nat}, Wd m w → goes go r w < n := by
  intro w
  refine snoc_ind (P := fun w => Wd m w → RA.goes go r w < n) (fun _ => hr) (fun w k ih hw => ?_) w
  rw [goes_snoc]; exact C _ (ih hw.left) k hw.last
structure Lots (m n : Nat) (go : Nat → Nat → Nat) (mk : Nat → Bool) (l : Nat) (lots : List Nat) : Prop where
  len : lots.length = n
  eq : ∀ p < n, ∀ q < n, (nth lots p = nth lots q ↔ agree m go mk l p q)
  gr : Grw lots
theorem lots_zero {lots : List Nat} (len : lots.length = n) (eq : ∀ p < n, ∀ q < n, (nth lots p = nth lots q ↔ mk p = mk q)) (gr : Grw lots) : Lots m n go mk 0 lots := by
  refine ⟨len, fun p hp q hq => (eq p hp q hq).trans ⟨fun h w hw hl => ?_, fun h => h [] Wd.nil (Nat.le_refl _)⟩, gr⟩
  rw [List.eq_nil_of_length_eq_zero (Nat.le_zero.mp hl)]; exact h
theorem lots_succ (C : Clo m n go) {l : Nat} {lots after : List Nat} (L : Lots m n go mk l lots) (len : after.length = n) (eq : ∀ p < n, ∀ q < n, (nth after p = nth after q ↔ nth lots p = nth lots q ∧ ∀ k < m, nth lots (go p k) = nth lots (go q k))) (gr : Grw after) : Lots m n go mk (l + 1) after := by
  refine ⟨len, fun p hp q hq => (eq p hp q hq).trans ?_, gr⟩
  rw [agree_succ, L.eq p hp q hq]
  exact and_congr Iff.rfl (forall_congr' fun k => forall_congr' fun hk => L.eq _ (C p hp k hk) _ (C q hq k hk))
/-- no new lot: no more parted -/
theorem lots_stable (C : Clo m n go) {l : Nat} {lots after : List Nat} (L : Lots m n go mk l lots) (A : Lots m n go mk (l + 1) after) (hn : 0 < n) (e : mx after = mx lots) : ∀ p < n, ∀ q < n, (nth lots p = nth lots q ↔ alike m go mk p q) := by
  have ref : ∀ p < n, ∀ q < n, nth after p = nth after q → nth lots p = nth lots q := fun p hp q hq h => (L.eq p hp q hq).mpr ((agree_succ.mp ((A.eq p hp q hq).mp h)).1)
  have back : ∀ p < n, ∀ q < n, nth lots p = nth lots q → nth after p = nth after q := by
    have : ∀ x, ∃ i, x ≤ mx after → i < n ∧ nth after i = x := fun x => by
      by_cases hx : x ≤ mx after
      · obtain ⟨i, h1, h2⟩ := A.gr.cov (by rw [A.len]; exact hn) x hx
        exact ⟨i, fun _ => ⟨by rw [← A.len]; exact h1, h2⟩⟩
      · exact ⟨0, fun z => absurd z hx⟩
    obtain ⟨g, hg⟩ := Classical.axiomOfChoice this
    have hφ : ∀ i < n, nth lots (g (nth after i)) = nth lots i := fun i hi => by
      obtain ⟨h1, h2⟩ := hg (nth after i) (mx_nth (by rw [A.len]; exact hi))
      exact ref _ h1 _ hi h2
    intro p hp q hq h
    refine surj_inj (c := mx after + 1) (φ := fun x => nth lots (g x)) (fun y hy => ?_) (Nat.lt_succ_of_le (mx_nth (by rw [A.len]; exact hp))) (Nat.lt_succ_of_le (mx_nth (by rw [A.len]; exact hq))) ?_
    · obtain ⟨i, h1, h2⟩ := L.gr.cov (by rw [L.len]; exact hn) y (by omega)
      rw [L.len] at h1
      exact ⟨nth after i, Nat.lt_succ_of_le (mx_nth (by rw [A.len]; exact h1)), by rw [hφ i h1, h2]⟩
    · show nth lots (g (nth after p)) = nth lots (g (nth after q)); rw [hφ p hp, hφ q hq, h]
  have up : ∀ (d : Nat), ∀ p < n, ∀ q < n, agree m go mk l p q → agree m go mk (l + d) p q := by
    intro d
    induction d with
    | zero => intro p _ q _ h; exact h
    | succ d ih =>
      intro p hp q hq h
      have h1 := (A.eq p hp q hq).mp (back p hp q hq ((L.eq p hp q hq).mpr h))
      have h2 := agree_succ.mp h1
      exact agree_succ.mpr ⟨ih p hp q hq h, fun k hk => ih _ (C p hp k hk) _ (C q hq k hk) (h2.2 k hk)⟩
  intro p hp q hq
  rw [L.eq p hp q hq]
  exact ⟨fun h w hw => up w.length p hp q hq h w hw (by omega), fun h w hw _ => h w hw⟩
/-! ### one room for each lot -/
/-- the rooms that come first in their lots -/
structure Frst (lots : List Nat) (t : Nat) (reps : List Nat) : Prop where
  lt : ∀ x < reps.length, nth reps x < t ∧ nth lots (nth reps x) = x ∧ ∀ j < nth reps x, nth lots j < x
  all : ∀ j < t, nth lots j < reps.length
theorem reps_zero {lots : List Nat} : Frst lots 0 [] := ⟨fun x h => absurd h (Nat.not_lt_zero _), fun j h => absurd h (Nat.not_lt_zero _)⟩
theorem Frst.le {lots reps : List Nat} {t : Nat} (R : Frst lots t reps) (G : Grw lots) (ht : t < lots.length) : nth lots t ≤ reps.length := by
  cases e : nth lots t with
  | zero => exact Nat.zero_le _
  | succ x =>
    obtain ⟨j, h1, h2⟩ := G t ht x e
    have := R.all j h1
    omega
theorem Frst.new {lots reps : List Nat} {t : Nat} (R : Frst lots t reps) (h : nth lots t = reps.length) : Frst lots (t + 1) (reps ++ [t]) := by
  refine ⟨fun x hx => ?_, fun j hj => ?_⟩
  · rw [List.length_append, List.length_singleton] at hx
    by_cases q : x < reps.length
    · rw [nth_app q]
      obtain ⟨h1, h2, h3⟩ := R.lt x q
      exact ⟨by omega, h2, h3⟩
    · have : x = reps.length := by omega
      subst this
      rw [nth_at]
      exact ⟨Nat.lt_succ_self _, h, R.all⟩
  · rw [List.length_append, List.length_singleton]
    by_cases q : j < t
    · have := R.all j q; omega
    · have : j = t := by omega
      subst this; omega
theorem Frst.old {lots reps : List Nat} {t : Nat} (R : Frst lots t reps) (G : Grw lots) (ht : t < lots.length) (h : nth lots t ≠ reps.length) : Frst lots (t + 1) reps := by
  have := R.le G ht
  refine ⟨fun x hx => ?_, fun j hj => ?_⟩
  · obtain ⟨h1, h2, h3⟩ := R.lt x hx
    exact ⟨by omega, h2, h3⟩
  · by_cases q : j < t
    · exact R.all j q
    · have : j = t := by omega
      subst this; omega
theorem Frst.count {lots reps : List Nat} (R : Frst lots lots.length reps) (h : 0 < lots.length) : reps.length = mx lots + 1 := by
  obtain ⟨i, h1, h2⟩ := mx_at h
  have h3 := R.all i h1
  have h4 : reps.length - 1 ≤ mx lots := by
    by_cases q : 0 < reps.length
    · obtain ⟨h5, h6, _⟩ := R.lt (reps.length - 1) (by omega)
      rw [← h6]; exact mx_nth h5
    · omega
  omega
/-- a machine whose rooms are unlike, come to, and stand in the order of their first words -/
structure Canon (m n : Nat) (go : Nat → Nat → Nat) (mk : Nat → Bool) : Prop where
  pos : 0 < n
  clo : Clo m n go
  rch : ∀ x < n, ∃ w, Wd m w ∧ goes go 0 w = x
  unq : ∀ x < n, ∀ y < n, alike m go mk x y → x = y
  ord : ∀ x y, x < y → y < n → ∀ w, Wd m w → goes go 0 w = y → ∃ u, Wd m u ∧ goes go 0 u = x ∧ num m u < num m w
/-! ### the rooms of lots -/
/-- the machine of the lots: go' and mk' by the rooms that come first -/
structure Quo (m n : Nat) (go : Nat → Nat → Nat) (mk : Nat → Bool) (lots reps : List Nat) (go' : Nat → Nat → Nat) (mk' : Nat → Bool) : Prop where
  pos : 0 < n
  clo : Clo m n go
  len : lots.length = n
  gr : Grw lots
  al : ∀ p < n, ∀ q < n, (nth lots p = nth lots q ↔ alike m go mk p q)
  rp : RA.Frst lots n reps
  gos : ∀ x < reps.length, ∀ k < m, go' x k = nth lots (go (nth reps x) k)
  mks : ∀ x < reps.length, mk' x = mk (nth reps x)
variable {lots reps : List Nat} {go' : Nat → Nat → Nat} {mk' : Nat → Bool}
theorem Quo.hom (Q : Quo m n go mk lots reps go' mk') {p : Nat} (hp : p < n) : (∀ k < m, go' (nth lots p) k = nth lots (go p k)) ∧ mk' (nth lots p) = mk p := by
  have h1 := Q.rp.all p hp
  obtain ⟨h2, h3, _⟩ := Q.rp.lt _ h1
  have h4 := (Q.al _ h2 _ hp).mp h3
  refine ⟨fun k hk => ?_, ?_⟩
  · rw [Q.gos _ h1 k hk]
    exact (Q.al _ (Q.clo _ h2 k hk) _ (Q.clo _ hp k hk)).mpr (h4.stp hk)
  · rw [Q.mks _ h1]; exact h4 [] Wd.nil
theorem Quo.far (Q : Quo m n go mk lots reps go' mk') {p : Nat} (hp : p < n) : ∀ {w : List Nat}, Wd m w → RA.goes go' (nth lots p) w = nth lots (RA.goes go p w) := by
  intro w
  refine snoc_ind (P := fun w => Wd m w → RA.goes go' (nth lots p) w = nth lots (RA.goes go p w)) (fun _ => rfl) (fun w k ih hw => ?_) w
  rw [goes_snoc, goes_snoc, ih hw.left]
  exact (Q.hom (Q.clo.goes hp hw.left)).1 k hw.last
theorem Quo.zero (Q : Quo m n go mk lots reps go' mk') : nth lots 0 = 0 := Q.gr.zero (by rw [Q.len]; exact Q.pos)
theorem Quo.start (Q : Quo m n go mk lots reps go' mk') {w : List Nat} (hw : Wd m w) : RA.goes go' 0 w = nth lots (RA.goes go 0 w) := by
  have := Q.far Q.pos hw
  rwa [Q.zero] at this
/-- the same words -/
theorem Quo.lang (Q : Quo m n go mk lots reps go' mk') {w : List Nat} (hw : Wd m w) : mk' (RA.goes go' 0 w) = mk (RA.goes go 0 w) := by
  rw [Q.start hw]; exact (Q.hom (Q.clo.goes Q.pos hw)).2
theorem Quo.canon (Q : Quo m n go mk lots reps go' mk') (rch : ∀ x < n, ∃ w, Wd m w ∧ RA.goes go 0 w = x) (ord : ∀ x y, x < y → y < n → ∀ w, Wd m w → RA.goes go 0 w = y → ∃ u, Wd m u ∧ RA.goes go 0 u = x ∧ num m u < num m w) : Canon m reps.length go' mk' := by
  have hp0 := Q.rp.all 0 Q.pos
  refine ⟨by omega, fun x hx k hk => ?_, fun x hx => ?_, fun x hx y hy h => ?_, fun x y hxy hy w hw e => ?_⟩
  · rw [Q.gos x hx k hk]
    exact Q.rp.all _ (Q.clo _ (Q.rp.lt x hx).1 k hk)
  · obtain ⟨h1, h2, _⟩ := Q.rp.lt x hx
    obtain ⟨w, h3, h4⟩ := rch _ h1
    exact ⟨w, h3, by rw [Q.start h3, h4, h2]⟩
  · obtain ⟨h1, h2, _⟩ := Q.rp.lt x hx
    obtain ⟨h3, h4, _⟩ := Q.rp.lt y hy
    have := (Q.al _ h1 _ h3).mpr fun w hw => by
      have := h w hw
      rw [← h2, ← h4, Q.far h1 hw, Q.far h3 hw, (Q.hom (Q.clo.goes h1 hw)).2, (Q.hom (Q.clo.goes h3 hw)).2] at this
      exact this
    rwa [h2, h4] at this
  · rw [Q.start hw] at e
    obtain ⟨h1, h2, h3⟩ := Q.rp.lt x (by omega)
    have hp := Q.clo.goes Q.pos hw
    have lt : nth reps x < RA.goes go 0 w := by
      refine Classical.byContradiction fun ne => ?_
      rcases Nat.lt_or_eq_of_le (Nat.le_of_not_lt ne) with z | z
      · have := h3 _ z; omega
      · rw [← z] at h2; omega
    obtain ⟨u, g1, g2, g3⟩ := ord _ _ lt hp w hw rfl
    exact ⟨u, g1, by rw [Q.start g1, g2, h2], g3⟩
end
end RA
/-! B3: plain: the machine of a row of states; more of lots. -/
namespace RA
section
variable {α : Type} {m : Nat} {st : α → Nat → α} {a0 : α} {f : List (α × List Nat)} {i j : Nat} {gn : Nat → Nat → Nat}
/-- gn leads from place to place as st leads from state to state -/
def Places (m : Nat) (st : α → Nat → α) (f : List (α × List Nat)) (gn : Nat → Nat → Nat) : Prop := ∀ (x : Nat) (p : α × List Nat), f[x]? = some p → ∀ k < m, ∃ q, f[gn x k]? = some q ∧ q.1 = st p.1 k
theorem Places.clo (P : Places m st f gn) : Clo m f.length gn := fun r hr k hk => by
  obtain ⟨q, h, _⟩ := P r _ (List.getElem?_eq_getElem hr) k hk
  exact (List.getElem?_eq_some_iff.mp h).1
theorem Places.far (P : Places m st f gn) (I : Bfs m st a0 f i j) : ∀ w, Wd m w → ∃ q, f[goes gn 0 w]? = some q ∧ q.1 = goes st a0 w := by
  refine snoc_ind (fun _ => ⟨_, I.hd, rfl⟩) fun w k ih hw => ?_
  obtain ⟨q, h1, h2⟩ := ih hw.left
  obtain ⟨r, h3, h4⟩ := P _ q h1 k hw.last
  rw [goes_snoc, goes_snoc]
  exact ⟨r, h3, by rw [h4, h2]⟩
theorem Bfs.place (I : Bfs m st a0 f i j) {x y : Nat} {p q : α × List Nat} (hp : f[x]? = some p) (hq : f[y]? = some q) (e : p.1 = q.1) : x = y := by
  obtain ⟨hx, ex⟩ := List.getElem?_eq_some_iff.mp hp
  obtain ⟨hy, ey⟩ := List.getElem?_eq_some_iff.mp hq
  have hx' : x < (f.map (·.1)).length := by rw [List.length_map]; exact hx
  have hy' : y < (f.map (·.1)).length := by rw [List.length_map]; exact hy
  have e1 : (f.map (·.1))[x] = p.1 := by rw [List.getElem_map, ex]
  have e2 : (f.map (·.1))[y] = q.1 := by rw [List.getElem_map, ey]
  have nd := List.pairwise_iff_getElem.mp I.nd
  rcases Nat.lt_trichotomy x y with z | z | z
  · exact absurd (e1.trans (e.trans e2.symm)) (nd x y hx' hy' z)
  · exact z
  · exact absurd (e2.trans (e.symm.trans e1.symm)) (nd y x hy' hx' z)
theorem Places.rch (P : Places m st f gn) (I : Bfs m st a0 f i j) {x : Nat} {p : α × List Nat} (hp : f[x]? = some p) : Wd m p.2 ∧ goes gn 0 p.2 = x := by
  obtain ⟨h1, h2, _⟩ := I.it p (List.mem_of_getElem? hp)
  obtain ⟨q, h3, h4⟩ := P.far I p.2 h1
  exact ⟨h1, I.place h3 hp (by rw [h4, h2])⟩
theorem Places.ord (P : Places m st f gn) (I : Bfs m st a0 f i j) (hi : f.length ≤ i) : ∀ x y, x < y → y < f.length → ∀ w, Wd m w → goes gn 0 w = y → ∃ u, Wd m u ∧ goes gn 0 u = x ∧ num m u < num m w := by
  intro x y hxy hy w hw e
  have hx : x < f.length := by omega
  have px : f[x]? = some f[x] := List.getElem?_eq_getElem hx
  have py : f[y]? = some f[y] := List.getElem?_eq_getElem hy
  obtain ⟨h1, h2⟩ := P.rch I px
  obtain ⟨q, h3, h4⟩ := P.far I w hw
  rw [e, py] at h3
  cases h3
  have h5 := I.first hi (a := f[y].1) (u := f[y].2) (w := w) (List.getElem_mem hy) hw h4.symm
  have h6 := List.pairwise_iff_getElem.mp I.srt x y hx hy hxy
  exact ⟨_, h1, h2, Nat.lt_of_lt_of_le h6 h5⟩
end
section
variable {m n : Nat} {go : Nat → Nat → Nat} {mk : Nat → Bool}
theorem lots_grow {l : Nat} {lots after : List Nat} (L : Lots m n go mk l lots) (A : Lots m n go mk (l + 1) after) (hn : 0 < n) : mx lots ≤ mx after := by
  have ref : ∀ p < n, ∀ q < n, nth after p = nth after q → nth lots p = nth lots q := fun p hp q hq h => (L.eq p hp q hq).mpr ((agree_succ.mp ((A.eq p hp q hq).mp h)).1)
  have : ∀ y, ∃ i, y ≤ mx lots → i < n ∧ nth lots i = y := fun y => by
    by_cases hy : y ≤ mx lots
    · obtain ⟨i, h1, h2⟩ := L.gr.cov (by rw [L.len]; exact hn) y hy
      exact ⟨i, fun _ => ⟨by rw [← L.len]; exact h1, h2⟩⟩
    · exact ⟨0, fun z => absurd z hy⟩
  obtain ⟨g, hg⟩ := Classical.axiomOfChoice this
  have nd : ((List.range (mx lots + 1)).map fun y => nth after (g y)).Nodup := by
    unfold List.Nodup
    rw [List.pairwise_map]
    refine List.Pairwise.imp_of_mem (fun {y z} hy hz h w => ?_) List.nodup_range
    obtain ⟨a1, a2⟩ := hg y (by have := List.mem_range.mp hy; omega)
    obtain ⟨b1, b2⟩ := hg z (by have := List.mem_range.mp hz; omega)
    have := ref _ a1 _ b1 w
    exact h (by rw [← a2, ← b2, this])
  have := nodupLe (mx after + 1) _ nd fun x hx => by
    obtain ⟨y, hy, rfl⟩ := List.mem_map.mp hx
    obtain ⟨a1, a2⟩ := hg y (by have := List.mem_range.mp hy; omega)
    exact Nat.lt_succ_of_le (mx_nth (by rw [A.len]; exact a1))
  rw [List.length_map, List.length_range] at this
  omega
theorem lots_lt {l : Nat} {lots : List Nat} (L : Lots m n go mk l lots) (hn : 0 < n) : mx lots < n := by
  have : ∀ y, ∃ i, y ≤ mx lots → i < n ∧ nth lots i = y := fun y => by
    by_cases hy : y ≤ mx lots
    · obtain ⟨i, h1, h2⟩ := L.gr.cov (by rw [L.len]; exact hn) y hy
      exact ⟨i, fun _ => ⟨by rw [← L.len]; exact h1, h2⟩⟩
    · exact ⟨0, fun z => absurd z hy⟩
  obtain ⟨g, hg⟩ := Classical.axiomOfChoice this
  have nd : ((List.range (mx lots + 1)).map g).Nodup := by
    unfold List.Nodup
    rw [List.pairwise_map]
    refine List.Pairwise.imp_of_mem (fun {y z} hy hz h w => ?_) List.nodup_range
    obtain ⟨a1, a2⟩ := hg y (by have := List.mem_range.mp hy; omega)
    obtain ⟨b1, b2⟩ := hg z (by have := List.mem_range.mp hz; omega)
    exact h (by rw [← a2, ← b2, w])
  have := nodupLe n _ nd fun x hx => by
    obtain ⟨y, hy, rfl⟩ := List.mem_map.mp hx
    exact (hg y (by have := List.mem_range.mp hy; omega)).1
  rw [List.length_map, List.length_range] at this
  omega
/-- all rounds told -/
structure Told (m n : Nat) (go : Nat → Nat → Nat) (mk : Nat → Bool) (most : Nat) (told : List (List Nat)) (last : List Nat) : Prop where
  ne : told.getLast? = some last
  lots : ∀ (r : Nat) (l : List Nat), told[r]? = some l → Lots m n go mk r l
  fin : most ≤ mx last ∨ ∀ p < n, ∀ q < n, (nth last p = nth last q ↔ alike m go mk p q)
  cnt : told.length ≤ mx last + 1
end
end RA
/-! W6: walking with conditions shown on the way. -/
namespace RA
open PySem PySem.Spec PyProof.Rows L2
/-- slots written -/
def up : Ev → List (Nat × Option (Bool × RA.D)) → Ev
  | G, [] => G
  | G, (i, v) :: r => up (G.set i v) r
theorem up_nil {G : Ev} : up G [] = G := (rfl)
theorem up_cons {G : Ev} {i : Nat} {v : Option (Bool × RA.D)} {r : List (Nat × Option (Bool × RA.D))} : up G ((i, v) :: r) = up (G.set i v) r := (rfl)
theorem mk_sat {np nn : Nat} {F : FT} {ir : IS} {ds : List RA.D} {R : Rs (Bool × RA.D) → Prop} (hl : ds.length = np) (h : Sat (exec F FUEL ir (startG nn ds)) fun o => R (fin o)) : R (mk np nn F ir ds) := by
  rw [mk_fin hl]; exact h
/-- one turn of a loop: on (P), out (K), or the end (Q) -/
def Turn (P K : Ev → Prop) (Q : Out → Prop) (o : Out) : Prop := match o with
  | .nx G => P G
  | .ct G => P G
  | .bk G => K G
  | .rt b d => Q (.rt b d)
  | .ex G c fs => Q (.ex G c fs)
  | .no => False
section
variable {P K : Ev → Prop} {Q : Out → Prop} {G : Ev}
theorem tn_nx : Sat (.nx G) (Turn P K Q) ↔ P G := Iff.rfl
theorem tn_ct : Sat (.ct G) (Turn P K Q) ↔ P G := Iff.rfl
theorem tn_bk : Sat (.bk G) (Turn P K Q) ↔ K G := Iff.rfl
theorem tn_rt {b : Bool} {d : RA.D} : Sat (.rt b d) (Turn P K Q) ↔ Q (.rt b d) := Iff.rfl
theorem tn_ex {c : Nat} {fs : List RA.D} : Sat (.ex G c fs) (Turn P K Q) ↔ Q (.ex G c fs) := Iff.rfl
end
section
variable {tg : Tg} {b : Ev → Out} {f : Ev → Out} {Q : Out → Prop} {G : Ev}
theorem for_at {ds : List RA.D} (Inv : Ev → Nat → Ev → Prop) (i0 : Inv G 0 G)
    (h : ∀ i d G', ds[i]? = some d → Inv G i G' → ∃ G2, bindT tg d G' = some G2 ∧ Sat (b G2) (Turn (Inv G (i + 1)) (fun G3 => Sat (f G3) Q) Q)) (k : ∀ G', Inv G ds.length G' → Sat (f G') Q) : Sat (seqO (loopF tg b ds G) f) Q := by
  have key : ∀ (rest : List RA.D) (i : Nat) (G' : Ev), ds.drop i = rest → Inv G i G' → i + rest.length = ds.length → Sat (seqO (loopF tg b rest G') f) Q := by
    intro rest
    induction rest with
    | nil => intro i G' e hi hl; exact k G' (by rw [← hl]; exact hi)
    | cons d rest ih =>
      intro i G' e hi hl
      have hd : ds[i]? = some d := by rw [← List.head?_drop, e]; rfl
      obtain ⟨G2, h1, h2⟩ := h i d G' hd hi
      have e' : ds.drop (i + 1) = rest := by rw [← List.drop_drop, e]; rfl
      have hl' : i + 1 + rest.length = ds.length := by rw [← hl, List.length_cons]; omega
      unfold loopF
      rw [h1]
      dsimp only
      cases eb : b G2 with
      | nx G3 => rw [eb] at h2; exact ih (i + 1) G3 e' h2 hl'
      | ct G3 => rw [eb] at h2; exact ih (i + 1) G3 e' h2 hl'
      | bk G3 => rw [eb] at h2; exact h2
      | rt o d => rw [eb] at h2; exact h2
      | ex G3 c fs => rw [eb] at h2; exact h2
      | no => rw [eb] at h2; exact False.elim h2
  exact key ds 0 G rfl i0 (by simp)
theorem for_map {α : Type} {g : α → RA.D} {xs : List α} (Inv : Ev → Nat → Ev → Prop) (i0 : Inv G 0 G)
    (h : ∀ i x G', xs[i]? = some x → i < xs.length → Inv G i G' → ∃ G2, bindT tg (g x) G' = some G2 ∧ Sat (b G2) (Turn (Inv G (i + 1)) (fun G3 => Sat (f G3) Q) Q)) (k : ∀ G', Inv G xs.length G' → Sat (f G') Q) : Sat (seqO (loopF tg b (xs.map g) G) f) Q := by
  refine for_at Inv i0 (fun i d G' hd hi => ?_) (fun G' hG => k G' (by rw [List.length_map] at hG; exact hG))
  obtain ⟨x, hx, rfl⟩ := map_get hd
  exact h i x G' hx (List.getElem?_eq_some_iff.mp hx).1 hi
theorem for_rng {n : Nat} (Inv : Ev → Nat → Ev → Prop) (i0 : Inv G 0 G)
    (h : ∀ i G', i < n → Inv G i G' → ∃ G2, bindT tg (.int (i : Nat)) G' = some G2 ∧ Sat (b G2) (Turn (Inv G (i + 1)) (fun G3 => Sat (f G3) Q) Q)) (k : ∀ G', Inv G n G' → Sat (f G') Q) : Sat (seqO (loopF tg b (rangeD 0 (n : Int)) G) f) Q := by
  refine for_at Inv i0 (fun i d G' hd hi => ?_) (fun G' hG => k G' (by
    rw [range_len] at hG
    have e : ((n : Int) - 0).toNat = n := by omega
    rw [e] at hG; exact hG))
  obtain ⟨rfl, hi'⟩ := range_get hd
  rw [Int.zero_add]
  exact h i G' (by omega) hi
theorem whl_at {t : Ev → Rs Bool} (Inv : Ev → Nat → Ev → Prop) (m : Nat) (hm : m ≤ 999999999) (i0 : Inv G m G)
    (h : ∀ m G', Inv G m G' → (t G' = .ok false ∧ Sat (f G') Q) ∨ (t G' = .ok true ∧ Sat (b G') (Turn (fun G2 => ∃ m', m' < m ∧ Inv G m' G2) (fun G3 => Sat (f G3) Q) Q))) : Sat (seqO (loopW t b FUEL G) f) Q := by
  have key : ∀ (n m : Nat) (G' : Ev), m < n → Inv G m G' → Sat (seqO (loopW t b n G') f) Q := by
    intro n
    induction n with
    | zero => intro m G' hm; exact absurd hm (Nat.not_lt_zero m)
    | succ n ih =>
      intro m G' hm i
      unfold loopW
      rcases h m G' i with ⟨h1, h2⟩ | ⟨h1, h2⟩
      · rw [h1, Rs.out_ok, if_neg Bool.false_ne_true]; exact h2
      · rw [h1, Rs.out_ok, if_pos rfl]
        cases eb : b G' with
        | nx G2 => rw [eb] at h2; obtain ⟨m', h3, h4⟩ := h2; exact ih m' G2 (by omega) h4
        | ct G2 => rw [eb] at h2; obtain ⟨m', h3, h4⟩ := h2; exact ih m' G2 (by omega) h4
        | bk G2 => rw [eb] at h2; exact h2
        | rt o d => rw [eb] at h2; exact h2
        | ex G2 c fs => rw [eb] at h2; exact h2
        | no => rw [eb] at h2; exact False.elim h2
  exact key FUEL m G (by unfold FUEL; omega) i0
end
/-! ### items -/
/-- the item at a place -/
def it {α : Type} [Inhabited α] (l : List α) (i : Nat) : α := l.getD i default
section
variable {α : Type} [Inhabited α]
theorem it_get {l : List α} {i : Nat} (h : i < l.length) : l[i]? = some (it l i) := by unfold it; rw [List.getD_eq_getElem?_getD, List.getElem?_eq_getElem h]; rfl
theorem it_of {l : List α} {i : Nat} {x : α} (h : l[i]? = some x) : it l i = x := by unfold it; rw [List.getD_eq_getElem?_getD, h]; rfl
theorem it_mem {l : List α} {i : Nat} (h : i < l.length) : it l i ∈ l := List.mem_of_getElem? (it_get h)
theorem it_nth {l : List Nat} {i : Nat} : it l i = nth l i := (rfl)
theorem it_app {l m : List α} {i : Nat} (h : i < l.length) : it (l ++ m) i = it l i := it_of (by rw [List.getElem?_append_left h, it_get h])
theorem it_at {l : List α} {x : α} : it (l ++ [x]) l.length = x := it_of (by rw [List.getElem?_append_right (Nat.le_refl _), Nat.sub_self]; rfl)
theorem ixl {f : α → RA.D} {xs : List α} {i : Nat} (h : i < xs.length) : ixD (.lst (xs.map f)) (.int (i : Nat)) = .ok (f (it xs i)) := ix_lst (geta (by rw [List.getElem?_map, it_get h]; rfl))
theorem ixt {f : α → RA.D} {xs : List α} {i : Nat} (h : i < xs.length) : ixD (.tup (xs.map f)) (.int (i : Nat)) = .ok (f (it xs i)) := ix_tup (geta (by rw [List.getElem?_map, it_get h]; rfl))
theorem atI_neg {α : Type} {l : List α} {x : α} : atI (l ++ [x]) (-1) = some x := by
  unfold atI ixN
  rw [if_neg (by omega), if_pos (by rw [List.length_append, List.length_singleton]; omega)]
  have e : ((-1 : Int) + ((l ++ [x]).length : Nat)).toNat = l.length := by rw [List.length_append, List.length_singleton]; omega
  show (l ++ [x])[((-1 : Int) + ((l ++ [x]).length : Nat)).toNat]? = some x
  rw [e, List.getElem?_append_right (Nat.le_refl _), Nat.sub_self]; rfl
theorem snoc_of {l : List α} (h : 0 < l.length) : ∃ l' : List α, l = l' ++ [it l (l.length - 1)] := by
  have ne : l ≠ [] := fun z => by rw [z] at h; cases h
  refine ⟨l.dropLast, ?_⟩
  have e := List.dropLast_concat_getLast ne
  have : it l (l.length - 1) = l.getLast ne := it_of (by rw [List.getLast_eq_getElem, List.getElem?_eq_getElem (by omega)])
  rw [this, e]
theorem ixl_last {f : α → RA.D} {xs : List α} (h : 0 < xs.length) : ixD (.lst (xs.map f)) (.int (-1)) = .ok (f (it xs (xs.length - 1))) := by
  obtain ⟨l', e⟩ := snoc_of h
  refine ix_lst ?_
  generalize it xs (xs.length - 1) = z at e
  subst e
  rw [List.map_append]
  exact atI_neg
theorem ixl_zero {f : α → RA.D} {xs : List α} (h : 0 < xs.length) : ixD (.lst (xs.map f)) (.int 0) = .ok (f (it xs 0)) := ixl h
theorem ixt_zero {f : α → RA.D} {xs : List α} (h : 0 < xs.length) : ixD (.tup (xs.map f)) (.int 0) = .ok (f (it xs 0)) := ixt h
end
theorem ixs {s : List Nat} {i : Nat} (h : i < s.length) (hs : s.length ≤ 16777216) : ixD (.str s) (.int (i : Nat)) = .ok (.str [nth s i]) := ix_sign (line_big hs) (geta (nth_get h))
theorem ixs_last {s : List Nat} (h : 0 < s.length) (hs : s.length ≤ 16777216) : ixD (.str s) (.int (-1)) = .ok (.str [nth s (s.length - 1)]) := by
  obtain ⟨l', e⟩ := snoc_of h
  refine ix_sign (line_big hs) ?_
  rw [it_nth] at e
  generalize nth s (s.length - 1) = z at e
  subst e
  exact atI_neg
section
variable {a b c : RA.D} {l : List RA.D}
theorem ixT0 : ixD (.tup (a :: l)) (.int 0) = .ok a := ix_tup (by unfold atI ixN; rw [if_pos (by decide), if_pos (by rw [List.length_cons]; omega)]; rfl)
theorem ixT1 : ixD (.tup [a, b]) (.int 1) = .ok b := (rfl)
theorem ixT12 : ixD (.tup [a, b, c]) (.int 1) = .ok b := (rfl)
theorem ixT22 : ixD (.tup [a, b, c]) (.int 2) = .ok c := (rfl)
theorem ixL0 : ixD (.lst [a, b]) (.int 0) = .ok a := (rfl)
theorem ixL1 : ixD (.lst [a, b]) (.int 1) = .ok b := (rfl)
end
section
variable {s : List Nat} {rows : List (List Nat)} {marks : List Bool}
theorem ixM0 : ixD (mD s rows marks) (.int 0) = .ok (.str s) := (rfl)
theorem ixM1 : ixD (mD s rows marks) (.int 1) = .ok (.tup (rows.map (fun r : List Nat => RA.D.tup (r.map (fun (n : Nat) => RA.D.int n))))) := (rfl)
theorem ixM2 : ixD (mD s rows marks) (.int 2) = .ok (.tup (marks.map .bl)) := (rfl)
end
theorem lenS {s : List Nat} (h : s.length ≤ 16777216) : biD .len [.str s] = .ok (.val, .int s.length) := len_str (line_big h)
theorem slS {s : List Nat} {lo hi : Option Int} (h : s.length ≤ 16777216) : slD (.str s) lo hi = .ok (.val, .str (cutD s lo hi)) := if_pos (line_big h)
theorem rvS {s : List Nat} (h : s.length ≤ 16777216) : rvD (.str s) = .ok (.val, .str s.reverse) := if_pos (line_big h)
theorem catS {s t : List Nat} (h : s.length + t.length ≤ 16777216) : binD .add (.str s) (.str t) = .ok (.val, .str (s ++ t)) := b_cat (line_big h)
theorem appL {G : Ev} {i : Nat} {f : Fl} {d : RA.D} {xs : List RA.D} (hf : f ≠ .tmp) (hl : xs.length ≤ 16777215) : appO G i (.ok (f, d)) (some (some (true, .lst xs))) = .nx (G.set i (some (true, .lst (xs ++ [d])))) := appO_ok hf (line_lt hl)
theorem unp2 {G : Ev} {i j : Nat} {f : Fl} {a b : RA.D} (hf : f ≠ .tmp) : unpO G [i, j] (f, .tup [a, b]) = .nx ((G.set i (some (false, a))).set j (some (false, b))) := unpO_ok hf rfl
theorem unp3 {G : Ev} {i j k : Nat} {f : Fl} {a b c : RA.D} (hf : f ≠ .tmp) : unpO G [i, j, k] (f, .tup [a, b, c]) = .nx (((G.set i (some (false, a))).set j (some (false, b))).set k (some (false, c))) := unpO_ok hf rfl
theorem r1 {n : Nat} (h : n ≤ 1000000000) : rng1O (.int (n : Int)) = .ok (rangeD 0 (n : Int)) := rng1O_ok (small_nat (by omega))
theorem r2 {a n : Nat} (h : a ≤ 1000000000) (h2 : n ≤ 1000000000) : rng2O (.int (a : Int)) (.int (n : Int)) = .ok (rangeD (a : Int) (n : Int)) := rng2O_ok (small_nat (by omega)) (small_nat (by omega))
theorem r2one {n : Nat} (h2 : n ≤ 1000000000) : rng2O (.int 1) (.int (n : Int)) = .ok (rangeD ((1 : Nat) : Int) (n : Int)) := rng2O_ok (by rfl) (small_nat (by omega))
/-- the numbers of a range -/
theorem rng_map {n : Nat} : rangeD 0 (n : Int) = (List.range n).map (fun (n : Nat) => RA.D.int n) := by
  unfold rangeD
  have e : ((n : Int) - 0).toNat = n := by omega
  rw [e]
  refine List.map_congr_left fun i _ => ?_
  rw [Int.zero_add]
theorem zip_maps {α β : Type} {f : α → RA.D} {g : β → RA.D} : ∀ {xs : List α} {ys : List β}, zipD (xs.map f) (ys.map g) = (xs.zip ys).map fun p => .tup [f p.1, g p.2]
  | [], _ => rfl
  | _ :: _, [] => rfl
  | x :: xs, y :: ys => by rw [List.map_cons, List.map_cons, List.zip_cons_cons, List.map_cons, ← zip_maps]; rfl
/-! ### comprehensions -/
def compO (F : FT) (t e : IE) (tg : Tg) (G : Ev) (ds : List RA.D) : Rs (Fl × RA.D) := if (tgSlots tg).all (freeAt G) = true ∧ ds.length < sizeLine then ((compGo (tstO F t) (ev F e) tg (forget (tgSlots tg) G) ds).quiet).bind fun rs => .ok (.own, .lst rs) else .no
section
variable {F : FT} {G : Ev} {tg : Tg} {t e : IE}
theorem e_comp2 {i : II} : ev F (.comp tg i t e) G = (evI F i G).bind (compO F t e tg G) := (rfl)
/-- a comprehension of all -/
theorem comp_of {α : Type} {f : α → RA.D} {xs : List α} (v : α → RA.D) (hf : (tgSlots tg).all (freeAt G) = true) (hl : xs.length ≤ 16777215) (h : ∀ i x, xs[i]? = some x → i < xs.length → ∃ G', bindT tg (f x) (forget (tgSlots tg) G) = some G' ∧ ∃ fl, fl ≠ Fl.tmp ∧ ev F e G' = .ok (fl, v x)) :
    compO F (.k (.bl true)) e tg G (xs.map f) = .ok (.own, .lst (xs.map v)) := by
  unfold compO
  rw [if_pos ⟨hf, line_lt (by rw [List.length_map]; exact hl)⟩, comp_list f v xs fun x hx => ?_]
  · rfl
  · obtain ⟨i, hi, e⟩ := List.mem_iff_getElem.mp hx
    obtain ⟨G', h1, fl, h2, h3⟩ := h i x (by rw [List.getElem?_eq_getElem hi, e]) hi
    exact ⟨G', h1, rfl, fl, h2, h3⟩
/-- .. of those that are so -/
theorem comp_if {α : Type} {f : α → RA.D} {xs : List α} (p : α → Bool) (v : α → RA.D) (hf : (tgSlots tg).all (freeAt G) = true) (hl : xs.length ≤ 16777215) (h : ∀ i x, xs[i]? = some x → i < xs.length → ∃ G', bindT tg (f x) (forget (tgSlots tg) G) = some G' ∧ asB (ev F t G') = .ok (p x) ∧ (p x = true → ∃ fl, fl ≠ Fl.tmp ∧ ev F e G' = .ok (fl, v x))) :
    compO F t e tg G (xs.map f) = .ok (.own, .lst ((xs.filter p).map v)) := by
  have key : ∀ (ys : List α), (∀ x ∈ ys, x ∈ xs) → compGo (tstO F t) (ev F e) tg (forget (tgSlots tg) G) (ys.map f) = .ok ((ys.filter p).map v) := by
    intro ys
    induction ys with
    | nil => intro _; rfl
    | cons x ys ih =>
      intro hs
      have ih := ih fun y hy => hs y (List.mem_cons_of_mem _ hy)
      obtain ⟨i, hi, e⟩ := List.mem_iff_getElem.mp (hs x List.mem_cons_self)
      obtain ⟨G', h1, h2, h3⟩ := h i x (by rw [List.getElem?_eq_getElem hi, e]) hi
      rw [List.map_cons]
      unfold compGo
      rw [h1]
      dsimp only
      rw [show tstO F t G' = .ok (p x) from h2, Rs.bind_ok]
      cases hp : p x with
      | true =>
        obtain ⟨fl, k1, k2⟩ := h3 hp
        rw [if_pos rfl, k2, Rs.bind_ok, if_neg k1, ih, Rs.bind_ok, List.filter_cons_of_pos hp, List.map_cons]
      | false => rw [if_neg Bool.false_ne_true, ih, List.filter_cons_of_neg (by rw [hp]; exact Bool.false_ne_true)]
  unfold compO
  rw [if_pos ⟨hf, line_lt (by rw [List.length_map]; exact hl)⟩, key xs fun _ h => h]
  rfl
end
/-! ### whole numbers from 0 on -/
theorem nat1 (n : Nat) : (n : Int) + 1 = ((n + 1 : Nat) : Int) := (rfl)
theorem nat1l (n : Nat) : (1 : Int) + n = ((1 + n : Nat) : Int) := (Int.natCast_add 1 n).symm
theorem natA (a b : Nat) : (a : Int) + b = ((a + b : Nat) : Int) := (Int.natCast_add a b).symm
theorem natM (a b : Nat) : (a : Int) * b = ((a * b : Nat) : Int) := (Int.natCast_mul a b).symm
theorem natD (a b : Nat) : (a : Int) / b = ((a / b : Nat) : Int) := (Int.natCast_ediv a b).symm
theorem natR (a b : Nat) : (a : Int) % b = ((a % b : Nat) : Int) := (Int.natCast_emod a b).symm
theorem natS {a b : Nat} (h : b ≤ a) : (a : Int) - b = ((a - b : Nat) : Int) := by omega
theorem natS1 {a : Nat} (h : 1 ≤ a) : (a : Int) - 1 = ((a - 1 : Nat) : Int) := by omega
theorem natE (a b : Nat) : ((a : Int) = b) = (a = b) := propext Int.ofNat_inj
theorem natL (a b : Nat) : ((a : Int) < b) = (a < b) := propext Int.ofNat_lt
theorem natLe (a b : Nat) : ((a : Int) ≤ b) = (a ≤ b) := propext Int.ofNat_le
theorem natL0 (b : Nat) : ((0 : Int) < b) = (0 < b) := propext (by omega)
theorem natN0 (b : Nat) : ((b : Int) < 0) = False := propext ⟨fun h => by omega, fun h => h.elim⟩
theorem nat0 (b : Nat) : ((b : Int) = 0) = (b = 0) := propext (by omega)
/-- max of a list -/
theorem max_nats {l : List Nat} (h : 0 < l.length) : biD .max [.lst (l.map (fun (n : Nat) => RA.D.int n))] = .ok (.val, .int (mx l : Nat)) := by
  have e1 : ∀ l : List Nat, intsOf (l.map (fun (n : Nat) => RA.D.int n)) = some (l.map fun n : Nat => (n : Int)) := by
    intro l
    induction l with
    | nil => rfl
    | cons a l ih => rw [List.map_cons, List.map_cons]; unfold intsOf; rw [ih]; rfl
  have e2 : ∀ (l : List Nat) (x : Nat), (l.map fun n : Nat => (n : Int)).foldl (fun a b => if a < b then b else a) (x : Int) = (l.foldl max x : Nat) := by
    intro l
    induction l with
    | nil => intro x; rfl
    | cons a l ih =>
      intro x
      rw [List.map_cons, List.foldl_cons, List.foldl_cons, ← ih]
      congr 1
      by_cases q : x < a
      · rw [if_pos (Int.ofNat_lt.mpr q), Nat.max_eq_right (by omega)]
      · rw [if_neg (fun z => q (Int.ofNat_lt.mp z)), Nat.max_eq_left (by omega)]
  show (match intsOf (l.map (fun (n : Nat) => RA.D.int n)) with | some ns => (match maxL ns with | some m => Rs.ok (Fl.val, RA.D.int m) | none => .no) | none => .no) = _
  rw [e1]
  cases l with
  | nil => cases h
  | cons a l =>
    show (match maxL ((a : Int) :: l.map fun n : Nat => (n : Int)) with | some m => Rs.ok (Fl.val, RA.D.int m) | none => .no) = _
    have : mx (a :: l) = l.foldl max a := by unfold mx; rw [List.foldl_cons, Nat.max_eq_right (Nat.zero_le _)]
    rw [this, ← e2]
    rfl
/-! ### keys -/
theorem tupF {α : Type} [DecidableEq α] {f : α → RA.D} (tk : ∀ a, tupKey (f a) = true) (inj : ∀ a b, keyD (f a) = keyD (f b) → a = b) : KeyF f := by
  have al : ∀ l : List (α × RA.D), ((kv f l).all fun x => tupKey x.1) = true := fun l => by
    rw [List.all_eq_true]
    intro x hx
    obtain ⟨p, _, rfl⟩ := List.mem_map.mp hx
    exact tk _
  refine ⟨fun a b => ?_, fun l a => ?_, fun l => ?_⟩
  · unfold keyEq
    by_cases q : a = b
    · subst q; rw [decide_eq_true rfl, decide_eq_true rfl]
    · rw [decide_eq_false q, decide_eq_false (fun z => q (inj a b z))]
  · unfold keysOk keysT
    rw [tk, al, Bool.and_self, Bool.or_true]
  · show (if _ then _ else _) = _
    rw [if_pos (by rw [al, Bool.or_true]), kv_len]
theorem keyNN : KeyF fun p : Nat × Nat => RA.D.tup [.int p.1, .int p.2] := by
  refine tupF (fun p => rfl) fun a b z => ?_
  obtain ⟨a1, a2⟩ := a
  obtain ⟨b1, b2⟩ := b
  have z : some (NestedKey.tup [.num (a1 : Int), .num (a2 : Int)]) = some (NestedKey.tup [.num (b1 : Int), .num (b2 : Int)]) := z
  simp only [Option.some.injEq, NestedKey.tup.injEq, List.cons.injEq, NestedKey.num.injEq, and_true] at z
  rw [Int.ofNat_inj.mp z.1, Int.ofNat_inj.mp z.2]
theorem keyDs_nats : ∀ l : List Nat, keyDs (l.map (fun (n : Nat) => RA.D.int n)) = some (l.map fun n : Nat => NestedKey.num (n : Int))
  | [] => rfl
  | a :: l => by
    rw [List.map_cons, List.map_cons]
    show (match keyD (.int (a : Nat)), keyDs (l.map (fun (n : Nat) => RA.D.int n)) with | some k, some ks => some (k :: ks) | _, _ => none) = _
    rw [keyDs_nats l]; rfl
theorem depth_nats : ∀ l : List Nat, NestedKey.depthAll (l.map fun n : Nat => NestedKey.num (n : Int)) = 0
  | [] => rfl
  | a :: l => by
    rw [List.map_cons]
    show max 0 (NestedKey.depthAll _) = 0
    rw [depth_nats l]; rfl
theorem nums_inj : ∀ {l l' : List Nat}, (l.map fun n : Nat => NestedKey.num (n : Int)) = (l'.map fun n : Nat => NestedKey.num (n : Int)) → l = l'
  | [], [], _ => rfl
  | [], _ :: _, h => by cases h
  | _ :: _, [], h => by cases h
  | a :: l, b :: l', h => by
    rw [List.map_cons, List.map_cons, List.cons.injEq, NestedKey.num.injEq] at h
    rw [Int.ofNat_inj.mp h.1, nums_inj h.2]
theorem keyNL : KeyF fun p : Nat × List Nat => RA.D.tup [.int p.1, .tup (p.2.map (fun (n : Nat) => RA.D.int n))] := by
  have e : ∀ p : Nat × List Nat, keyD (.tup [.int p.1, .tup (p.2.map (fun (n : Nat) => RA.D.int n))]) = some (.tup [.num (p.1 : Int), .tup (p.2.map fun n : Nat => NestedKey.num (n : Int))]) := fun p => by
    have e1 : keyD (.tup (p.2.map (fun (n : Nat) => RA.D.int n))) = some (.tup (p.2.map fun n : Nat => NestedKey.num (n : Int))) := by
      show (keyDs _).map NestedKey.tup = _
      rw [keyDs_nats]; rfl
    show (match (some (NestedKey.num (p.1 : Int))), (match keyD (.tup (p.2.map (fun (n : Nat) => RA.D.int n))), (some ([] : List NestedKey)) with | some k, some ks => some (k :: ks) | _, _ => none) with | some k, some ks => some (k :: ks) | _, _ => none).map NestedKey.tup = _
    rw [e1]; rfl
  refine tupF (fun p => ?_) fun a b z => ?_
  · unfold tupKey
    rw [e]
    show decide (max 0 (max (NestedKey.depthAll _ + 1) 0) + 1 ≤ 8) = true
    rw [depth_nats]; rfl
  · rw [e, e, Option.some.injEq, NestedKey.tup.injEq, List.cons.injEq, List.cons.injEq, NestedKey.num.injEq, NestedKey.tup.injEq] at z
    obtain ⟨a1, a2⟩ := a
    obtain ⟨b1, b2⟩ := b
    have z1 : a1 = b1 := Int.ofNat_inj.mp z.1
    have z2 : a2 = b2 := nums_inj z.2.1
    rw [z1, z2]
end RA
/-! W7: least machines, walked. -/
namespace RA
open PySem PySem.Spec PyProof.Rows L2
local macro_rules | `(tactic| dsimp! [$xs,*]) => `(tactic| simp (disch := first | assumption | omega | (simp only [List.length_map, List.length_append, List.length_cons, List.length_nil, List.length_range, List.length_set]; omega) | decide | rfl) only [tstO_eq, x_seq, x_set, x_own, x_do, x_if, x_for, x_whl, x_ret, x_retN, x_pass, x_brk, x_cnt, x_rse, x_fgt, x_frz, x_retp, x_app, x_aug, x_unp, x_put, e_v, e_pk, e_k, e_gl, e_b, e_neg, e_cmp, e_and, e_or, e_not, e_ife, e_tup, e_lst, e_dct, e_dct1, e_lset, e_ix, e_sl, e_rv, rv_lst, e_out, e_bi, e_me, e_call, es_nil, es_cons, i_ex, i_rng1, i_rng2, i_zip, i_rev, valO_ok, pkO_ok, glO_ok, negO_ok, frzO_ok, retO_ok, augO_add, augO_sub, walkO_lst, walkO_tup, walkO_str, zipO_ok, zipI_ok, revO_ok, asB_ok, items_lst, items_tup, items_str, bindT_one, bindT_tup, setAll_nil, setAll_cons, forget_nil, forget_cons, prt_int, prt_out, isOut, keepOk_nil, keepOk_cons, recv_str, b_add, b_sub, c_lt, c_le, c_gt, c_ge, c_ltS, c_gtS, c_eqI, c_neI, c_eqS, c_neS, c_eqB, c_neB, c_isn, c_isnt, c_memS, c_nmemS, sl_lst, len_lst, len_tup, is_str, is_intI, is_boolI, is_boolB, tuple_lst, list_lst, list_tup, find_one, seqO_nx, seqO_no, seqO_rt, seqO_ex, seqO_bk, seqO_ct, seqO_seqO, seqO_ite, x_nil, sat_nx, sat_rt, sat_ex, sat_thru, sat_thru_ct, sat_nxt, sat_t1, sat_t1c, sat_t1r, sat_t1e, Rs.bind_ok, Rs.bind_ex, Rs.out_ok, Rs.out_ex, List.set_cons_succ, List.set_cons_zero, List.getElem?_cons_succ, List.getElem?_cons_zero, List.map_cons, List.map_nil, List.cons_append, List.nil_append, startG, List.reduceReplicate, List.length_cons, List.length_nil, Nat.reduceAdd, Nat.reduceSub, Nat.zero_add, Nat.add_zero, Nat.zero_le, Nat.reduceLeDiff, List.append_nil, reduceCtorEq, if_true, if_false, ite_true, ite_false, ne_eq, not_false_eq_true, not_true_eq_false, decide_true, decide_false, decide_not, Bool.not_true, Bool.not_false, Bool.and_true, Bool.true_and, Bool.and_self, Bool.false_eq_true, and_self, and_true, true_and, decide_eq_true_eq, Int.reduceEq, Int.cast_ofNat_Int, Int.reduceNe, Int.reduceLT, Int.reduceLE, Int.reduceNeg, Int.reduceAdd, Int.reduceSub, tgSlots, freeAt, List.all_cons, List.all_nil, isNon_non, isNon_str, isNon_int, isNon_bl, isNon_tup, isNon_lst, isNon_opq, fin_nx, fin_rt, fin_ex, e_xt, Bool.true_eq_false, eq_self, isc_non, isc_opq, x_xs, x_try, tryO_nx, tryO_rt, tryO_ex, hdG_as, hdG_cst, List.contains_cons, List.contains_nil, Nat.reduceBEq, beq_self_eq_true, up_nil, up_cons, tn_nx, tn_ct, tn_bk, tn_rt, tn_ex, b_fdiv, b_mod, max_two, min_two, ixl, ixt, ixl_last, ixl_zero, ixt_zero, ixs, ixs_last, ixT0, ixT1, ixT12, ixT22, ixL0, ixL1, ixM0, ixM1, ixM2, lenS, slS, rvS, catS, appL, unp2, unp3, r1, r2, r2one, e_comp2, it_nth, nat1, nat1l, natA, natM, natD, natR, natS, natS1, natE, natL, natLe, natL0, natN0, nat0, max_nats, Bool.not_eq_true', Bool.not_eq_false', List.length_map, List.length_append, List.length_range, Bool.true_or, Bool.false_or, Bool.or_true, Bool.or_false, Bool.and_false, Bool.false_and, Bool.or_self, decide_eq_false_iff_not, Nat.lt_irrefl, Bool.not_eq_eq_eq_not, not_true, not_false_iff, Nat.not_lt_zero, $xs,*])
/- 43 thinned(letters, ways, marks, lots); slots: 0=letters 1=ways 2=marks 3=lots 4=rows 5=truths 6=room 7=goal; calls:  -/
def i_thinned : IS := (.seq (.own 4 (.lst .nil)) (.seq (.own 5 (.lst .nil)) (.seq (.for_ (.one 6) (.rng1 (.bi .len (.cons (.v 1) .nil))) (.seq (.if_ (.cmp .eq (.ix (.v 3) (.v 6)) (.bi .len (.cons (.pk 4) .nil))) (.seq (.app 4 (.bi .tuple (.cons (.comp (.one 7) (.ex (.ix (.v 1) (.v 6))) (.k (.bl true)) (.ix (.v 3) (.v 7))) .nil))) (.seq (.app 5 (.ix (.v 2) (.v 6))) .nil)) .nil) .nil)) (.seq (.ret (.tup (.cons (.v 0) (.cons (.bi .tuple (.cons (.pk 4) .nil)) (.cons (.bi .tuple (.cons (.pk 5) .nil)) .nil))))) .nil))))
def f_thinned : FT := fun _ _ => .no
def m_thinned : List RA.D → Rs (Bool × RA.D) := mk 4 8 f_thinned i_thinned
/- 44 numbered(keys); slots: 0=keys 1=numbers 2=lots 3=key; calls:  -/
def i_numbered : IS := (.seq (.own 1 (.dct .nil .nil)) (.seq (.own 2 (.lst .nil)) (.seq (.for_ (.one 3) (.ex (.v 0)) (.seq (.if_ (.cmp .nmem (.v 3) (.pk 1)) (.seq (.put 1 (.v 3) (.bi .len (.cons (.pk 1) .nil))) .nil) .nil) (.seq (.app 2 (.ix (.pk 1) (.v 3))) .nil))) (.seq (.retp 2) .nil))))
def f_numbered : FT := fun _ _ => .no
def m_numbered : List RA.D → Rs (Bool × RA.D) := mk 1 4 f_numbered i_numbered
/- 45 key_of(lots, room, row); slots: 0=lots 1=room 2=row 3=goal; calls:  -/
def i_key_of : IS := (.seq (.ret (.tup (.cons (.ix (.v 0) (.v 1)) (.cons (.bi .tuple (.cons (.comp (.one 3) (.ex (.v 2)) (.k (.bl true)) (.ix (.v 0) (.v 3))) .nil)) .nil)))) .nil)
def f_key_of : FT := fun _ _ => .no
def m_key_of : List RA.D → Rs (Bool × RA.D) := mk 3 4 f_key_of i_key_of
/- 46 rounds(ways, marks, most); slots: 0=ways 1=marks 2=most 3=lots 4=told 5=after 6=room; calls: 44=numbered 45=key_of -/
def i_rounds : IS := (.seq (.set 3 (.call 44 (.cons (.v 1) .nil))) (.seq (.own 4 (.lst (.cons (.v 3) .nil))) (.seq (.whl (.cmp .lt (.bi .max (.cons (.v 3) .nil)) (.v 2)) (.seq (.set 5 (.call 44 (.cons (.comp (.one 6) (.rng1 (.bi .len (.cons (.v 0) .nil))) (.k (.bl true)) (.call 45 (.cons (.v 3) (.cons (.v 6) (.cons (.ix (.v 0) (.v 6)) .nil))))) .nil))) (.seq (.if_ (.cmp .eq (.bi .max (.cons (.v 5) .nil)) (.bi .max (.cons (.v 3) .nil))) (.seq (.retp 4) .nil) .nil) (.seq (.set 3 (.v 5)) (.seq (.app 4 (.v 3)) .nil))))) (.seq (.retp 4) .nil))))
def f_rounds : FT := fun n ds => match n, ds with | 44, ds => m_numbered ds | 45, ds => m_key_of ds | _, _ => .no
@[simp] theorem f_rounds_44 (ds : List RA.D) : f_rounds 44 ds = m_numbered ds := (rfl)
@[simp] theorem f_rounds_45 (ds : List RA.D) : f_rounds 45 ds = m_key_of ds := (rfl)
def m_rounds : List RA.D → Rs (Bool × RA.D) := mk 3 7 f_rounds i_rounds
structure Numb {α : Type} [Inhabited α] (keys : List α) (lots : List Nat) : Prop where
  len : lots.length = keys.length
  eq : ∀ i < keys.length, ∀ j < keys.length, (nth lots i = nth lots j ↔ it keys i = it keys j)
  gr : Grw lots
structure NumbI {α : Type} [Inhabited α] (keys : List α) (l : List (α × Nat)) (lots : List Nat) (i : Nat) : Prop where
  nd : (l.map (·.1)).Nodup
  vl : ∀ (x : Nat) (p : α × Nat), l[x]? = some p → p.2 = x
  ll : l.length ≤ i
  len : lots.length = i
  at' : ∀ j < i, (it keys j, nth lots j) ∈ l
  cov : ∀ p ∈ l, ∃ j, j < i ∧ nth lots j = p.2
  gr : Grw lots
theorem mem_uniq {α β : Type} {l : List (α × β)} (nd : (l.map (·.1)).Nodup) {a : α} {x y : β} (h1 : (a, x) ∈ l) (h2 : (a, y) ∈ l) : x = y := by
  induction l with
  | nil => cases h1
  | cons p l ih =>
    rw [List.map_cons, List.nodup_cons] at nd
    rcases List.mem_cons.mp h1 with e1 | e1 <;> rcases List.mem_cons.mp h2 with e2 | e2
    · rw [← e1] at e2; cases e2; rfl
    · exact absurd (List.mem_map.mpr ⟨_, e2, by rw [← e1]⟩) nd.1
    · exact absurd (List.mem_map.mpr ⟨_, e1, by rw [← e2]⟩) nd.1
    · exact ih nd.2 e1 e2
section
variable {α : Type} [Inhabited α] {keys : List α} {l : List (α × Nat)} {lots : List Nat} {i : Nat}
theorem NumbI.start : NumbI keys [] [] 0 := ⟨List.nodup_nil, fun x p h => by simp at h, Nat.le_refl _, rfl, fun j h => absurd h (Nat.not_lt_zero _), fun p h => (by cases h), fun j h => absurd h (Nat.not_lt_zero _)⟩
theorem Grw.snoc {l : List Nat} (h : Grw l) {y : Nat} (hy : ∀ x, y = x + 1 → ∃ j, j < l.length ∧ nth l j = x) : Grw (l ++ [y]) := by
  intro i hi x e
  rw [List.length_append, List.length_singleton] at hi
  by_cases q : i < l.length
  · rw [nth_app q] at e
    obtain ⟨j, h1, h2⟩ := h i q x e
    exact ⟨j, h1, by rw [nth_app (by omega)]; exact h2⟩
  · have : i = l.length := by omega
    subst this
    rw [nth_at] at e
    obtain ⟨j, h1, h2⟩ := hy x e
    exact ⟨j, h1, by rw [nth_app h1]; exact h2⟩
theorem NumbI.step (I : NumbI keys l lots i) {y : Nat} (hm : (it keys i, y) ∈ l) : NumbI keys l (lots ++ [y]) (i + 1) := by
  obtain ⟨x, hx, e⟩ := List.mem_iff_getElem.mp hm
  have vy : y = x := I.vl x _ (by rw [List.getElem?_eq_getElem hx, e])
  refine ⟨I.nd, I.vl, Nat.le_succ_of_le I.ll, by rw [List.length_append, List.length_singleton, I.len], fun j hj => ?_, fun p hp => ?_, I.gr.snoc fun z hz => ?_⟩
  · by_cases q : j < i
    · rw [nth_app (by rw [I.len]; exact q)]; exact I.at' j q
    · have : j = i := by omega
      subst this
      rw [← I.len, nth_at, I.len]; exact hm
  · obtain ⟨j, h1, h2⟩ := I.cov p hp
    exact ⟨j, by omega, by rw [nth_app (by rw [I.len]; exact h1)]; exact h2⟩
  · obtain ⟨j, h1, h2⟩ := I.cov _ (List.getElem_mem (show z < l.length by omega))
    rw [I.vl z _ (List.getElem?_eq_getElem (by omega))] at h2
    exact ⟨j, by rw [I.len]; exact h1, h2⟩
theorem NumbI.new (I : NumbI keys l lots i) (hn : it keys i ∉ l.map (·.1)) : NumbI keys (l ++ [(it keys i, l.length)]) (lots ++ [l.length]) (i + 1) := by
  refine ⟨?_, fun x p h => ?_, by rw [List.length_append, List.length_singleton]; exact Nat.succ_le_succ I.ll, by rw [List.length_append, List.length_singleton, I.len], fun j hj => ?_, fun p hp => ?_, I.gr.snoc fun z hz => ?_⟩
  · rw [List.map_append, List.nodup_append]
    refine ⟨I.nd, by simp, fun a ha b hb => ?_⟩
    have : b = it keys i := by simpa using hb
    subst this
    exact fun z => hn (z ▸ ha)
  · by_cases q : x < l.length
    · rw [List.getElem?_append_left q] at h; exact I.vl x p h
    · have hx := (List.getElem?_eq_some_iff.mp h).1
      rw [List.length_append, List.length_singleton] at hx
      have : x = l.length := by omega
      subst this
      rw [List.getElem?_append_right (Nat.le_refl _), Nat.sub_self] at h
      cases h; rfl
  · by_cases q : j < i
    · rw [nth_app (by rw [I.len]; exact q)]; exact List.mem_append_left _ (I.at' j q)
    · have : j = i := by omega
      subst this
      rw [← I.len, nth_at, I.len]; exact List.mem_append_right _ (List.mem_singleton.mpr rfl)
  · rcases List.mem_append.mp hp with z | z
    · obtain ⟨j, h1, h2⟩ := I.cov p z
      exact ⟨j, by omega, by rw [nth_app (by rw [I.len]; exact h1)]; exact h2⟩
    · rw [List.mem_singleton.mp z]
      exact ⟨i, by omega, by rw [← I.len, nth_at]⟩
  · obtain ⟨j, h1, h2⟩ := I.cov _ (List.getElem_mem (show z < l.length by omega))
    rw [I.vl z _ (List.getElem?_eq_getElem (by omega))] at h2
    exact ⟨j, by rw [I.len]; exact h1, h2⟩
theorem NumbI.done (I : NumbI keys l lots keys.length) : Numb keys lots := by
  refine ⟨I.len, fun i hi j hj => ⟨fun e => ?_, fun e => ?_⟩, I.gr⟩
  · have h1 := I.at' i hi
    have h2 := I.at' j hj
    obtain ⟨x, hx, ex⟩ := List.mem_iff_getElem.mp h1
    obtain ⟨y, hy, ey⟩ := List.mem_iff_getElem.mp h2
    have v1 : nth lots i = x := I.vl x _ (by rw [List.getElem?_eq_getElem hx, ex])
    have v2 : nth lots j = y := I.vl y _ (by rw [List.getElem?_eq_getElem hy, ey])
    have : x = y := by omega
    subst this
    rw [ex] at ey
    exact congrArg (·.1) ey
  · have h1 := I.at' i hi
    have h2 := I.at' j hj
    rw [e] at h1
    exact mem_uniq I.nd h1 h2
end
theorem lk_nd2 {α : Type} [DecidableEq α] {l : List (α × RA.D)} {a : α} {d : RA.D} (nd : (l.map (·.1)).Nodup) (h : (a, d) ∈ l) : lk l a = some d := by
  obtain ⟨d', e, h'⟩ := lk_some (List.mem_map.mpr ⟨_, h, rfl⟩)
  rw [e, mem_uniq nd h h']
/-- numbers by keys -/
def dN {α : Type} (l : List (α × Nat)) : List (α × RA.D) := l.map fun p => (p.1, .int p.2)
theorem dN_len {α : Type} {l : List (α × Nat)} : (dN l).length = l.length := List.length_map ..
theorem dN_fst {α : Type} {l : List (α × Nat)} : (dN l).map (·.1) = l.map (·.1) := by unfold dN; rw [List.map_map]; rfl
theorem dN_app {α : Type} {l m : List (α × Nat)} : dN (l ++ m) = dN l ++ dN m := List.map_append
theorem dN_lk {α : Type} [DecidableEq α] {l : List (α × Nat)} (nd : (l.map (·.1)).Nodup) {a : α} {x : Nat} (h : (a, x) ∈ l) : lk (dN l) a = some (.int x) := lk_nd2 (by rw [dN_fst]; exact nd) (List.mem_map.mpr ⟨_, h, rfl⟩)
theorem numbered_ok {α : Type} [DecidableEq α] [Inhabited α] {f : α → RA.D} (K : KeyF f) {keys : List α} (hl : keys.length ≤ 100000) : ∃ lots, m_numbered [.lst (keys.map f)] = .ok (true, .lst (lots.map (fun (n : Nat) => RA.D.int n))) ∧ Numb keys lots := by
  refine mk_sat (R := fun r => ∃ lots : List Nat, r = .ok (true, .lst (lots.map (fun (n : Nat) => RA.D.int n))) ∧ Numb keys lots) rfl ?_
  unfold i_numbered
  dsimp! [up_nil]
  refine for_map (fun G0 i G => ∃ (l : List (α × Nat)) (lots : List Nat) (t : Option (Bool × RA.D)), G = up G0 [(1, some (true, .dct (kv f (dN l)))), (2, some (true, .lst (lots.map (fun (n : Nat) => RA.D.int n)))), (3, t)] ∧ NumbI keys l lots i) ⟨[], [], none, rfl, NumbI.start⟩ ?_ ?_
  · rintro i x G hx hi ⟨l, lots, t, rfl, I⟩
    refine ⟨_, rfl, ?_⟩
    have e := it_of hx
    have ll := I.ll
    have il := I.len
    have dl : (dN l).length < sizeLine := line_lt (by rw [dN_len]; omega)
    have g1 : cmpD .nmem (f x) (.dct (kv f (dN l))) = .ok (!decide (x ∈ l.map (·.1))) := by rw [kv_nmem K, dN_fst]
    by_cases h : x ∈ l.map (·.1)
    · obtain ⟨p, hp, ep⟩ := List.mem_map.mp h
      have hm : (it keys i, p.2) ∈ l := by rw [e, ← ep]; exact hp
      have g2 : ixD (.dct (kv f (dN l))) (f x) = .ok (.int (p.2 : Nat)) := kv_ix K (dN_lk I.nd (by rw [← ep]; exact hp))
      dsimp! [g1, h, g2]
      exact ⟨l, lots ++ [p.2], _, by rw [List.map_append]; rfl, I.step hm⟩
    · have hn : it keys i ∉ l.map (·.1) := by rw [e]; exact h
      have I2 := I.new hn
      rw [e] at I2
      have g2 : ixD (.dct (kv f (dN (l ++ [(x, l.length)])))) (f x) = .ok (.int (l.length : Nat)) := kv_ix K (dN_lk I2.nd (List.mem_append_right _ (List.mem_singleton.mpr rfl)))
      have ea : dN l ++ [(x, RA.D.int (l.length : Nat))] = dN (l ++ [(x, l.length)]) := by rw [dN_app]; rfl
      have g3 : ∀ G, putO G 1 (.ok (.val, .int (l.length : Nat))) (.ok (.val, f x)) (some (some (true, .dct (kv f (dN l))))) = .nx (G.set 1 (some (true, .dct (kv f (dN (l ++ [(x, l.length)])))))) := fun G => by
        rw [kv_putO K dl (by rw [dN_fst]; exact h), if_neg (by decide), ea]
      have g4 := K.len (dN l)
      rw [dN_len] at g4
      dsimp! [g1, h, g2, g3, g4]
      exact ⟨l ++ [(x, l.length)], lots ++ [l.length], _, by rw [List.map_append]; rfl, I2⟩
  · rintro G ⟨l, lots, t, rfl, I⟩
    dsimp! [up_nil]
    exact ⟨lots, rfl, I.done⟩
theorem key_of_ok {lots row : List Nat} {r : Nat} (hr : r < lots.length) (hl : ∀ g ∈ row, g < lots.length) (hw : row.length ≤ 1000) : m_key_of [.lst (lots.map (fun (n : Nat) => RA.D.int n)), .int r, .lst (row.map (fun (n : Nat) => RA.D.int n))] = .ok (false, .tup [.int (nth lots r), .tup (row.map fun g => .int (nth lots g))]) := by
  refine mk_of rfl ?_
  unfold i_key_of
  dsimp! [up_nil]
  rw [comp_of (fun g => .int (nth lots g)) rfl (by omega) fun i x hx hi => ⟨_, rfl, .val, by decide, by have := hl x (List.mem_of_getElem? hx); dsimp! [up_nil]⟩]
  dsimp! [up_nil]
/-- the ways of rooms, by rows -/
abbrev go (rows : List (List Nat)) : Nat → Nat → Nat := fun r k => nth (it rows r) k
abbrev LROW : List Nat → RA.D := fun r => RA.D.lst (r.map (fun (n : Nat) => RA.D.int n))
structure Rws (m n : Nat) (rows : List (List Nat)) : Prop where
  len : rows.length = n
  row : ∀ r < n, (it rows r).length = m ∧ ∀ g ∈ it rows r, g < n
theorem Rws.clo {m n : Nat} {rows : List (List Nat)} (R : Rws m n rows) : Clo m n (go rows) := fun r hr k hk => by
  obtain ⟨h1, h2⟩ := R.row r hr
  exact h2 _ (nth_mem (by omega))
theorem map_eq_iff {l l' : List Nat} {f : Nat → Nat} (h : l.length = l'.length) : l.map f = l'.map f ↔ ∀ k < l.length, f (nth l k) = f (nth l' k) := by
  refine ⟨fun e k hk => ?_, fun e => nth_ext (by rw [List.length_map, List.length_map, h]) fun k hk => ?_⟩
  · have : nth (l.map f) k = nth (l'.map f) k := by rw [e]
    rwa [nth_map f hk, nth_map f (by omega)] at this
  · rw [List.length_map] at hk
    rw [nth_map f hk, nth_map f (by omega), e k hk]
theorem rounds_ok {m n most : Nat} {rows : List (List Nat)} {marks : List Bool} (R : Rws m n rows) (hn : 0 < n) (hn2 : n ≤ 5000) (hm : m ≤ 3) (hk : marks.length = n) : ∃ told last, m_rounds [.lst (rows.map LROW), .lst (marks.map .bl), .int most] = .ok (true, .lst (told.map LROW)) ∧ Told m n (go rows) (it marks) most told last := by
  refine mk_sat (R := fun r => ∃ told last, r = .ok (true, .lst (told.map LROW)) ∧ Told m n (go rows) (it marks) most told last) rfl ?_
  unfold i_rounds
  obtain ⟨lots0, e0, N0⟩ := numbered_ok keyB (keys := marks) (by omega)
  have C := R.clo
  have L0 : Lots m n (go rows) (it marks) 0 lots0 := lots_zero (by rw [N0.len, hk]) (fun p hp q hq => N0.eq p (by omega) q (by omega)) N0.gr
  dsimp! [f_rounds_44, e0]
  refine whl_at (fun G0 v G => ∃ (told : List (List Nat)) (lots : List Nat) (t5 t6 : Option (Bool × RA.D)), G = up G0 [(3, some (false, .lst (lots.map (fun (n : Nat) => RA.D.int n)))), (4, some (true, .lst (told.map LROW))), (5, t5)] ∧ v + mx lots = n ∧ told.getLast? = some lots ∧ told.length ≤ mx lots + 1 ∧ ∀ (r : Nat) (l : List Nat), told[r]? = some l → Lots m n (go rows) (it marks) r l) (n - mx lots0) (by omega) ?_ ?_
  · have := lots_lt L0 hn
    refine ⟨[lots0], lots0, none, none, rfl, by omega, rfl, Nat.succ_le_succ (Nat.zero_le _), fun r l h => ?_⟩
    cases r with
    | zero => cases h; exact L0
    | succ r => simp at h
  · rintro v G ⟨told, lots, t5, t6, rfl, hv, hlast, hlen, hT⟩
    obtain ⟨told', ht⟩ : ∃ told' : List (List Nat), told = told' ++ [lots] := by
      have ne : told ≠ [] := fun z => by rw [z] at hlast; cases hlast
      refine ⟨told.dropLast, ?_⟩
      have e1 := List.dropLast_concat_getLast ne
      rw [List.getLast?_eq_some_getLast ne] at hlast
      rw [Option.some.inj hlast] at e1
      exact e1.symm
    have hat : told[told'.length]? = some lots := by rw [ht, List.getElem?_append_right (Nat.le_refl _), Nat.sub_self]; rfl
    have L := hT _ _ hat
    have ll := L.len
    have hks : ((List.range n).map fun r => (nth lots r, (it rows r).map (nth lots))).length = n := by rw [List.length_map, List.length_range]
    generalize hkeys : ((List.range n).map fun r => (nth lots r, (it rows r).map (nth lots))) = keys at hks
    have N' := numbered_ok (f := fun p : Nat × List Nat => RA.D.tup [.int p.1, .tup (p.2.map (fun (n : Nat) => RA.D.int n))]) keyNL (keys := keys) (Nat.le_trans (Nat.le_of_eq hks) (Nat.le_trans hn2 (by decide)))
    obtain ⟨after, e1, N1⟩ := N'
    by_cases hc : mx lots < most
    · refine .inr ⟨by dsimp! [hc], ?_⟩
      have hrl : rows.length = n := R.len
      have key : ∀ r < n, m_key_of [.lst (lots.map (fun (n : Nat) => RA.D.int n)), .int (r : Nat), .lst ((it rows r).map (fun (n : Nat) => RA.D.int n))] = .ok (false, .tup [.int (nth lots r), .tup ((it rows r).map fun g => .int (nth lots g))]) := fun r hr => by
        obtain ⟨h1, h2⟩ := R.row r hr
        exact key_of_ok (by omega) (fun g hg => by rw [ll]; exact h2 g hg) (by omega)
      have al : after.length = n := by rw [N1.len, hks]
      have A : Lots m n (go rows) (it marks) (told'.length + 1) after := by
        refine lots_succ C L al (fun p hp q hq => ?_) N1.gr
        have := N1.eq p (by rw [hks]; exact hp) q (by rw [hks]; exact hq)
        rw [this, ← hkeys, it_of (x := (nth lots p, (it rows p).map (nth lots))) (by rw [List.getElem?_map, List.getElem?_range hp]; rfl), it_of (x := (nth lots q, (it rows q).map (nth lots))) (by rw [List.getElem?_map, List.getElem?_range hq]; rfl), Prod.mk.injEq]
        obtain ⟨h1, _⟩ := R.row p hp
        obtain ⟨h2, _⟩ := R.row q hq
        rw [map_eq_iff (by rw [h1, h2]), h1]
      have hgr := lots_grow L A hn
      have hlt := lots_lt A hn
      have hlt0 := lots_lt L hn
      dsimp! [hrl, rng_map]
      rw [comp_of (fun r => .tup [.int (nth lots r), .tup ((it rows r).map fun g => .int (nth lots g))]) rfl (by rw [List.length_range]; omega) fun i x hx hi => ⟨_, rfl, .val, by decide, by
        have hi : i < n := by rw [List.length_range] at hi; exact hi
        obtain rfl : x = i := by rw [List.getElem?_range hi] at hx; exact (Option.some.inj hx).symm
        dsimp! [f_rounds_45, key x hi]⟩]
      have e1 : m_numbered [.lst ((List.range n).map fun r => .tup [.int (nth lots r), .tup ((it rows r).map fun g => .int (nth lots g))])] = .ok (true, .lst (after.map (fun (n : Nat) => RA.D.int n))) := by
        rw [← e1, ← hkeys, List.map_map]
        congr 3
        refine List.map_congr_left fun r _ => ?_
        show _ = RA.D.tup [.int (nth lots r), .tup (((it rows r).map (nth lots)).map (fun (n : Nat) => RA.D.int n))]
        rw [List.map_map]; rfl
      by_cases hq : mx after = mx lots
      · dsimp! [f_rounds_44, e1, hq]
        exact ⟨told, lots, rfl, hlast, hT, .inr (lots_stable C L A hn hq), hlen⟩
      · dsimp! [f_rounds_44, e1, hq]
        refine ⟨n - mx after, by omega, told ++ [after], after, _, none, by rw [List.map_append]; rfl, by omega, by rw [List.getLast?_append]; rfl, by rw [List.length_append, List.length_singleton]; omega, fun r l h => ?_⟩
        have tl : told.length = told'.length + 1 := by rw [ht, List.length_append, List.length_singleton]
        by_cases z : r < told.length
        · rw [List.getElem?_append_left z] at h; exact hT r l h
        · have hr := (List.getElem?_eq_some_iff.mp h).1
          rw [List.length_append, List.length_singleton] at hr
          have : r = told.length := by omega
          subst this
          rw [List.getElem?_append_right (Nat.le_refl _), Nat.sub_self] at h
          cases h
          rw [tl]; exact A
    · refine .inl ⟨by dsimp! [hc], ?_⟩
      dsimp! [up_nil]
      exact ⟨told, lots, rfl, hlast, hT, .inl (by omega), hlen⟩
theorem thinned_ok {s : List Nat} {m n : Nat} {rows : List (List Nat)} {marks : List Bool} {lots : List Nat} (R : Rws m n rows) (hn2 : n ≤ 5000) (hm : m ≤ 3) (hk : marks.length = n) (hl : lots.length = n) (G : Grw lots) :
    ∃ reps, m_thinned [.str s, .lst (rows.map LROW), .lst (marks.map .bl), .lst (lots.map (fun (n : Nat) => RA.D.int n))] = .ok (false, mD s (reps.map fun p => (it rows p).map (nth lots)) (reps.map fun p => it marks p)) ∧ Frst lots n reps := by
  refine mk_sat (R := fun r => ∃ reps : List Nat, r = .ok (false, mD s (reps.map fun p => (it rows p).map (nth lots)) (reps.map fun p => it marks p)) ∧ Frst lots n reps) rfl ?_
  unfold i_thinned
  have rl := R.len
  dsimp! [up_nil]
  refine for_rng (fun G0 i G => ∃ (reps : List Nat) (t : Option (Bool × RA.D)), G = up G0 [(4, some (true, .lst (reps.map fun p => (fun r : List Nat => RA.D.tup (r.map (fun (n : Nat) => RA.D.int n))) ((it rows p).map (nth lots))))), (5, some (true, .lst (reps.map fun p => .bl (it marks p)))), (6, t)] ∧ reps.length ≤ i ∧ Frst lots i reps) ⟨[], none, rfl, Nat.le_refl _, reps_zero⟩ ?_ ?_
  · rintro i G hi ⟨reps, t, rfl, hr, F⟩
    refine ⟨_, rfl, ?_⟩
    have hi : i < n := by omega
    obtain ⟨h1, h2⟩ := R.row i hi
    by_cases q : nth lots i = reps.length
    · dsimp! [q]
      rw [comp_of (fun g => .int (nth lots g)) rfl (by omega) fun j x hx hj => ⟨_, rfl, .val, by decide, by have := h2 x (List.mem_of_getElem? hx); dsimp! [up_nil]⟩]
      dsimp! [up_nil]
      refine ⟨reps ++ [i], some (false, .int (i : Nat)), ?_, by rw [List.length_append, List.length_singleton]; omega, F.new q⟩
      rw [List.map_append, List.map_append, List.map_cons, List.map_cons, List.map_nil, List.map_nil, List.map_map]; rfl
    · dsimp! [q]
      exact ⟨reps, _, rfl, by omega, F.old G (by omega) q⟩
  · rintro G ⟨reps, t, rfl, hr, F⟩
    dsimp! [up_nil]
    rw [rl] at F
    refine ⟨reps, ?_, F⟩
    unfold mD
    rw [List.map_map, List.map_map]; rfl
end RA
/-! W8: rows of states, walked: first words, least machines, pairs of rooms. -/
namespace RA
open PySem PySem.Spec PyProof.Rows L2
local macro_rules | `(tactic| dsimp! [$xs,*]) => `(tactic| simp (disch := first | assumption | omega | (simp only [List.length_map, List.length_append, List.length_cons, List.length_nil, List.length_range, List.length_set]; omega) | decide | rfl) only [tstO_eq, x_seq, x_set, x_own, x_do, x_if, x_for, x_whl, x_ret, x_retN, x_pass, x_brk, x_cnt, x_rse, x_fgt, x_frz, x_retp, x_app, x_aug, x_unp, x_put, e_v, e_pk, e_k, e_gl, e_b, e_neg, e_cmp, e_and, e_or, e_not, e_ife, e_tup, e_lst, e_dct, e_dct1, e_lset, e_ix, e_sl, e_rv, rv_lst, e_out, e_bi, e_me, e_call, es_nil, es_cons, i_ex, i_rng1, i_rng2, i_zip, i_rev, valO_ok, pkO_ok, glO_ok, negO_ok, frzO_ok, retO_ok, augO_add, augO_sub, walkO_lst, walkO_tup, walkO_str, zipO_ok, zipI_ok, revO_ok, asB_ok, items_lst, items_tup, items_str, bindT_one, bindT_tup, setAll_nil, setAll_cons, forget_nil, forget_cons, prt_int, prt_out, isOut, keepOk_nil, keepOk_cons, recv_str, b_add, b_sub, c_lt, c_le, c_gt, c_ge, c_ltS, c_gtS, c_eqI, c_neI, c_eqS, c_neS, c_eqB, c_neB, c_isn, c_isnt, c_memS, c_nmemS, sl_lst, len_lst, len_tup, is_str, is_intI, is_boolI, is_boolB, tuple_lst, list_lst, list_tup, find_one, seqO_nx, seqO_no, seqO_rt, seqO_ex, seqO_bk, seqO_ct, seqO_seqO, seqO_ite, x_nil, sat_nx, sat_rt, sat_ex, sat_thru, sat_thru_ct, sat_nxt, sat_t1, sat_t1c, sat_t1r, sat_t1e, Rs.bind_ok, Rs.bind_ex, Rs.out_ok, Rs.out_ex, List.set_cons_succ, List.set_cons_zero, List.getElem?_cons_succ, List.getElem?_cons_zero, List.map_cons, List.map_nil, List.cons_append, List.nil_append, startG, List.reduceReplicate, List.length_cons, List.length_nil, Nat.reduceAdd, Nat.reduceSub, Nat.zero_add, Nat.add_zero, Nat.zero_le, Nat.reduceLeDiff, List.append_nil, reduceCtorEq, if_true, if_false, ite_true, ite_false, ne_eq, not_false_eq_true, not_true_eq_false, decide_true, decide_false, decide_not, Bool.not_true, Bool.not_false, Bool.and_true, Bool.true_and, Bool.and_self, Bool.false_eq_true, and_self, and_true, true_and, decide_eq_true_eq, Int.reduceEq, Int.cast_ofNat_Int, Int.reduceNe, Int.reduceLT, Int.reduceLE, Int.reduceNeg, Int.reduceAdd, Int.reduceSub, tgSlots, freeAt, List.all_cons, List.all_nil, up_nil, up_cons, tn_nx, tn_ct, tn_bk, tn_rt, tn_ex, b_fdiv, b_mod, max_two, min_two, ixl, ixt, ixl_last, ixl_zero, ixt_zero, ixs, ixs_last, ixT0, ixT1, ixT12, ixT22, ixL0, ixL1, ixM0, ixM1, ixM2, lenS, slS, rvS, catS, appL, unp2, unp3, r1, r2, r2one, e_comp2, it_nth, nat1, nat1l, natA, natM, natD, natR, natS, natS1, natE, natL, natLe, natL0, natN0, nat0, max_nats, Bool.not_eq_true', Bool.not_eq_false', List.length_map, List.length_append, List.length_range, Bool.true_or, Bool.false_or, Bool.or_true, Bool.or_false, Bool.and_false, Bool.false_and, Bool.or_self, decide_eq_false_iff_not, Nat.lt_irrefl, Bool.not_eq_eq_eq_not, not_true, not_false_iff, Nat.not_lt_zero, $xs,*])
/- 47 least(machine); slots: 0=machine 1=rooms 2=places 3=room 4=ways 5=marks 6=lots 7=told 8=goal; calls: 43=thinned 46=rounds 37=first_words -/
def i_least : IS := (.seq (.set 1 (.comp (.one 7) (.ex (.call 37 (.cons (.v 0) .nil))) (.k (.bl true)) (.ix (.v 7) (.k (.int 0))))) (.seq (.own 2 (.dct .nil .nil)) (.seq (.for_ (.one 3) (.ex (.v 1)) (.seq (.put 2 (.v 3) (.bi .len (.cons (.pk 2) .nil))) .nil)) (.seq (.own 4 (.lst .nil)) (.seq (.for_ (.one 3) (.ex (.v 1)) (.seq (.app 4 (.comp (.one 8) (.ex (.ix (.ix (.v 0) (.k (.int 1))) (.v 3))) (.k (.bl true)) (.ix (.pk 2) (.v 8)))) .nil)) (.seq (.set 5 (.comp (.one 3) (.ex (.v 1)) (.k (.bl true)) (.ix (.ix (.v 0) (.k (.int 2))) (.v 3)))) (.seq (.frz 4) (.seq (.set 6 (.ix (.call 46 (.cons (.v 4) (.cons (.v 5) (.cons (.bi .len (.cons (.v 4) .nil)) .nil)))) (.neg (.k (.int 1))))) (.seq (.ret (.call 43 (.cons (.ix (.v 0) (.k (.int 0))) (.cons (.v 4) (.cons (.v 5) (.cons (.v 6) .nil)))))) .nil)))))))))
def f_least : FT := fun n ds => match n, ds with | 43, ds => m_thinned ds | 46, ds => m_rounds ds | 37, ds => m_first_words ds | _, _ => .no
@[simp] theorem f_least_43 (ds : List RA.D) : f_least 43 ds = m_thinned ds := (rfl)
@[simp] theorem f_least_46 (ds : List RA.D) : f_least 46 ds = m_rounds ds := (rfl)
@[simp] theorem f_least_37 (ds : List RA.D) : f_least 37 ds = m_first_words ds := (rfl)
def m_least : List RA.D → Rs (Bool × RA.D) := mk 1 9 f_least i_least
/- 48 _law_is_machine(_law_found, _law_letters_here); slots: 0=_law_found 1=_law_letters_here 2=_law_row 3=_law_goal 4=_law_mark; calls:  -/
/- 49 _law_alike(_law_machine_here, _law_left, _law_second, _law_right); slots: 0=_law_machine_here 1=_law_left 2=_law_second 3=_law_right 4=_law_seen 5=_law_row 6=_law_at 7=_law_k 8=_law_pair; calls:  -/
/- 52 first_parted(machine, one, second, two); slots: 0=machine 1=one 2=second 3=two 4=letters 5=seen 6=row 7=at 8=k 9=left 10=right 11=word 12=pair; calls:  -/
def i_first_parted : IS := (.seq (.set 4 (.ix (.v 0) (.k (.int 0)))) (.seq (.own 5 (.dct (.cons (.tup (.cons (.v 1) (.cons (.v 3) .nil))) .nil) (.cons (.k (.bl true)) .nil))) (.seq (.own 6 (.lst (.cons (.tup (.cons (.v 1) (.cons (.v 3) (.cons (.k (.str [])) .nil)))) .nil))) (.seq (.set 7 (.k (.int 0))) (.seq (.whl (.cmp .lt (.v 7) (.bi .len (.cons (.pk 6) .nil))) (.seq (.unp [9, 10, 11] (.ix (.pk 6) (.v 7))) (.seq (.if_ (.cmp .ne (.ix (.ix (.v 0) (.k (.int 2))) (.v 9)) (.ix (.ix (.v 2) (.k (.int 2))) (.v 10))) (.seq (.ret (.v 11)) .nil) .nil) (.seq (.for_ (.one 8) (.rng1 (.bi .len (.cons (.v 4) .nil))) (.seq (.set 12 (.tup (.cons (.ix (.ix (.ix (.v 0) (.k (.int 1))) (.v 9)) (.v 8)) (.cons (.ix (.ix (.ix (.v 2) (.k (.int 1))) (.v 10)) (.v 8)) .nil)))) (.seq (.if_ (.cmp .nmem (.v 12) (.pk 5)) (.seq (.put 5 (.v 12) (.k (.bl true))) (.seq (.app 6 (.tup (.cons (.ix (.v 12) (.k (.int 0))) (.cons (.ix (.v 12) (.k (.int 1))) (.cons (.b .add (.v 11) (.ix (.v 4) (.v 8))) .nil))))) .nil)) .nil) .nil))) (.seq (.set 7 (.b .add (.v 7) (.k (.int 1)))) .nil))))) (.seq (.ret (.k .non)) .nil))))))
def f_first_parted : FT := fun _ _ => .no
def m_first_parted : List RA.D → Rs (Bool × RA.D) := mk 4 13 f_first_parted i_first_parted
/- 53 parting(machine, one, two); slots: 0=machine 1=one 2=two 3=rooms; calls: 52=first_parted -/
def i_parting : IS := (.seq (.set 3 (.bi .len (.cons (.ix (.v 0) (.k (.int 1))) .nil))) (.seq (.if_ (.or_ (.cmp .lt (.v 1) (.k (.int 0))) (.or_ (.cmp .ge (.v 1) (.v 3)) (.or_ (.cmp .lt (.v 2) (.k (.int 0))) (.cmp .ge (.v 2) (.v 3))))) (.seq (.rse 21 "NoRoom") .nil) .nil) (.seq (.ret (.call 52 (.cons (.v 0) (.cons (.v 1) (.cons (.v 0) (.cons (.v 2) .nil)))))) .nil)))
def f_parting : FT := fun n ds => match n, ds with | 52, ds => m_first_parted ds | _, _ => .no
@[simp] theorem f_parting_52 (ds : List RA.D) : f_parting 52 ds = m_first_parted ds := (rfl)
def m_parting : List RA.D → Rs (Bool × RA.D) := mk 3 4 f_parting i_parting
/-- a word's text -/
def sp (s : List Nat) (w : List Nat) : List Nat := w.map (nth s)
theorem sp_snoc {s w : List Nat} {k : Nat} : sp s (w ++ [k]) = sp s w ++ [nth s k] := by unfold sp; rw [List.map_append]; rfl
theorem sp_len {s w : List Nat} : (sp s w).length = w.length := List.length_map ..
/-- keys alone -/
def kT {α : Type} (l : List α) : List (α × RA.D) := l.map fun a => (a, .bl true)
theorem kT_fst {α : Type} {l : List α} : (kT l).map (·.1) = l := by unfold kT; rw [List.map_map]; exact List.map_id' l
theorem kT_len {α : Type} {l : List α} : (kT l).length = l.length := List.length_map ..
theorem kT_app {α : Type} {l m : List α} : kT (l ++ m) = kT l ++ kT m := List.map_append
section
variable {α : Type} [DecidableEq α] {f : α → RA.D}
theorem kT_nmem (K : KeyF f) {l : List α} {a : α} : cmpD .nmem (f a) (.dct (kv f (kT l))) = .ok (!decide (a ∈ l)) := by rw [kv_nmem K, kT_fst]
theorem kT_put (K : KeyF f) {G : Ev} {i : Nat} {l : List α} {g : Fl} {a : α} (hl : l.length ≤ 16777215) (h : a ∉ l) : putO G i (.ok (.val, .bl true)) (.ok (g, f a)) (some (some (true, .dct (kv f (kT l))))) = .nx (G.set i (some (true, .dct (kv f (kT (l ++ [a])))))) := by
  rw [kv_putO K (line_lt (by rw [kT_len]; exact hl)) (by rw [kT_fst]; exact h), if_neg (by decide), kT_app]; rfl
theorem kT_one (K : KeyF f) {a : α} {g : Fl} : dct1O (g, f a) (.val, .bl true) = .ok (.own, .dct (kv f (kT [a]))) := by
  rw [kv_one K, if_neg (by decide)]; rfl
end
theorem K_len_aux (l : List (Nat × Nat)) : biD .len [.dct (kv (fun (n : Nat) => RA.D.int n) (dN l))] = .ok (.val, .int l.length) := by rw [keyN.len, dN_len]
theorem Mach.rws {s : List Nat} {rows : List (List Nat)} {marks : List Bool} (M : Mach s rows marks) : Rws s.length rows.length rows := ⟨rfl, fun r hr => M.row _ (it_mem hr)⟩
/-- a row of first words -/
abbrev FE (s : List Nat) : Nat × List Nat → RA.D := fun p => .tup [.int p.1, .str (sp s p.2)]
theorem fw_ok {s : List Nat} {rows : List (List Nat)} {marks : List Bool} (M : Mach s rows marks) (hn : rows.length ≤ 1000) : ∃ f, m_first_words [mD s rows marks] = .ok (true, .lst (f.map (FE s))) ∧ Bfs s.length (go rows) 0 f f.length 0 := by
  refine mk_sat (R := fun r => ∃ f : List (Nat × List Nat), r = .ok (true, .lst (f.map (FE s))) ∧ Bfs s.length (go rows) 0 f f.length 0) rfl ?_
  unfold i_first_words
  have L := M.ltrs
  have sl := L.le
  have R := M.rws
  have C := R.clo
  have d0 := kT_one keyN (a := 0) (g := .val)
  have sz : ∀ {f : List (Nat × List Nat)} {i j : Nat}, Bfs s.length (go rows) 0 f i j → f.length ≤ rows.length := fun I =>
    I.size rows.length id (fun a _ b _ e => e) fun a ha => by
      obtain ⟨p, hp, rfl⟩ := List.mem_map.mp ha
      exact I.inv (P := fun a => a < rows.length) M.pos (fun a k h1 h2 => C a h1 k h2) p hp
  dsimp! [up_nil]
  simp only [show dct1O (Fl.val, RA.D.int 0) (Fl.val, RA.D.bl true) = _ from d0]
  dsimp! [up_nil]
  refine whl_at (fun G0 v G => ∃ (f : List (Nat × List Nat)) (i : Nat) (t5 t6 t7 t8 : Option (Bool × RA.D)), G = up G0 [(2, some (true, .dct (kv (fun (n : Nat) => RA.D.int n) (kT (f.map (·.1)))))), (3, some (true, .lst (f.map (FE s)))), (4, some (false, .int (i : Nat))), (5, t5), (6, t6), (7, t7), (8, t8)] ∧ Bfs s.length (go rows) 0 f i 0 ∧ i ≤ f.length ∧ v + i = rows.length) rows.length (by omega) ⟨[(0, [])], 0, none, none, none, none, rfl, Bfs.start, Nat.zero_le _, rfl⟩ ?_
  rintro v G ⟨f, i, t5, t6, t7, t8, rfl, I, hi, hv⟩
  have fl := sz I
  by_cases hc : i < f.length
  · refine .inr ⟨by dsimp! [hc], ?_⟩
    have hp := it_get hc
    generalize it f i = p at hp
    obtain ⟨p1, p2⟩ := p
    have ei : it f i = (p1, p2) := it_of hp
    obtain ⟨w1, w2, w3⟩ := I.it _ (List.mem_of_getElem? hp)
    have hr : p1 < rows.length := I.inv (P := fun a => a < rows.length) M.pos (fun a k h1 h2 => C a h1 k h2) _ (List.mem_of_getElem? hp)
    obtain ⟨h1, h2⟩ := R.row p1 hr
    have w3 : p2.length < f.length := w3
    have wl : (sp s p2).length = p2.length := sp_len
    have fe : FE s (p1, p2) = .tup [.int p1, .str (sp s p2)] := rfl
    dsimp! [ei, fe, zip_maps]
    refine for_map (fun G0 k G => ∃ (f : List (Nat × List Nat)) (t7 t8 : Option (Bool × RA.D)), G = up G0 [(2, some (true, .dct (kv (fun (n : Nat) => RA.D.int n) (kT (f.map (·.1)))))), (3, some (true, .lst (f.map (FE s)))), (7, t7), (8, t8)] ∧ Bfs s.length (go rows) 0 f i k ∧ f[i]? = some (p1, p2)) ⟨f, t7, t8, rfl, I, hp⟩ ?_ ?_
    · rintro k x G hx hk ⟨f, t7, t8, rfl, I, hp⟩
      obtain ⟨x1, x2⟩ := x
      obtain ⟨hx1, hx2⟩ := List.getElem?_zip_eq_some.mp hx
      have hk : k < s.length := (List.getElem?_eq_some_iff.mp hx1).1
      have e2 : go rows p1 k = x2 := nth_of hx2
      have e1 : nth s k = x1 := nth_of hx1
      have fl := sz I
      refine ⟨_, rfl, ?_⟩
      have P := I.put hk hp
      unfold bput at P
      rw [show (go rows (p1, p2).1 k) = x2 from e2] at P
      by_cases q : x2 ∈ f.map (·.1)
      · rw [if_pos q] at P
        dsimp! [kT_nmem keyN, q]
        exact ⟨f, _, _, rfl, P.1, P.2⟩
      · rw [if_neg q] at P
        have g1 := fun G => kT_put (G := G) (i := 2) (g := .val) keyN (l := f.map (·.1)) (a := x2) (by rw [List.length_map]; omega) q
        dsimp! [kT_nmem keyN, q, g1, sp_len]
        refine ⟨f ++ [(x2, p2 ++ [k])], some (false, .str [x1]), some (false, .int (x2 : Nat)), ?_, P.1, P.2⟩
        rw [List.map_append, List.map_append]
        show _ = [_, _, _, some (true, RA.D.lst (f.map (FE s) ++ [FE s (x2, p2 ++ [k])])), _, _, _, _, _]
        unfold FE
        rw [sp_snoc, e1]; rfl
    · rintro G ⟨f, t7, t8, rfl, I, hp⟩
      have el : (s.zip (it rows p1)).length = s.length := by rw [List.length_zip, h1, Nat.min_self]
      rw [el] at I
      have fl := sz I.next
      dsimp! [up_nil]
      exact ⟨v - 1, by omega, f, i + 1, _, _, _, _, rfl, I.next, (List.getElem?_eq_some_iff.mp hp).1, by omega⟩
  · refine .inl ⟨by dsimp! [hc], ?_⟩
    have : i = f.length := by omega
    subst this
    dsimp! [up_nil]
    exact ⟨f, rfl, I⟩
/-- the places of rooms -/
def PL (l : List Nat) (i : Nat) : List (Nat × Nat) := (List.range i).map fun x => (nth l x, x)
theorem PL_succ {l : List Nat} {i : Nat} : PL l (i + 1) = PL l i ++ [(nth l i, i)] := by unfold PL; rw [List.range_succ, List.map_append]; rfl
theorem PL_len {l : List Nat} {i : Nat} : (PL l i).length = i := by unfold PL; rw [List.length_map, List.length_range]
theorem PL_fst {l : List Nat} {i : Nat} (hi : i ≤ l.length) : (PL l i).map (·.1) = l.take i := by
  refine List.ext_getElem? fun j => ?_
  unfold PL
  rw [List.map_map, List.getElem?_map]
  by_cases h : j < i
  · rw [List.getElem?_range h, List.getElem?_take_of_lt h, nth_get (by omega)]; rfl
  · rw [List.getElem?_eq_none (by rw [List.length_range]; omega), List.getElem?_eq_none (by rw [List.length_take]; omega)]; rfl
theorem idx_nth {l : List Nat} {a : Nat} (h : a ∈ l) : l.idxOf a < l.length ∧ nth l (l.idxOf a) = a := by
  have h1 := List.idxOf_lt_length_iff.mpr h
  exact ⟨h1, nth_of (by rw [List.getElem?_eq_getElem h1, List.getElem_idxOf])⟩
theorem not_takeN {l : List Nat} (nd : l.Nodup) {i : Nat} (hi : i < l.length) : nth l i ∉ l.take i := by
  intro h
  obtain ⟨j, hj, e⟩ := List.mem_iff_getElem.mp h
  rw [List.length_take] at hj
  rw [List.getElem_take] at e
  have h2 : l[i] = nth l i := (nth_of (List.getElem?_eq_getElem hi)).symm
  have := List.pairwise_iff_getElem.mp nd j i (by omega) hi (by omega)
  exact this (by rw [e, h2])
theorem least_ok {s : List Nat} {rows : List (List Nat)} {marks : List Bool} (M : Mach s rows marks) (hn : rows.length ≤ 1000) :
    ∃ rows' marks', m_least [mD s rows marks] = .ok (false, mD s rows' marks') ∧ Mach s rows' marks' ∧ Canon s.length rows'.length (go rows') (it marks') ∧ rows'.length ≤ rows.length ∧ ∀ w, Wd s.length w → it marks' (goes (go rows') 0 w) = it marks (goes (go rows) 0 w) := by
  obtain ⟨f, ef, I⟩ := fw_ok M hn
  have L := M.ltrs
  have sl := L.le
  have R := M.rws
  have C := R.clo
  have fl : f.length ≤ rows.length := I.size rows.length id (fun a _ b _ e => e) fun a ha => by
    obtain ⟨p, hp, rfl⟩ := List.mem_map.mp ha
    exact I.inv (P := fun a => a < rows.length) M.pos (fun a k h1 h2 => C a h1 k h2) p hp
  have f0 : 0 < f.length := (List.getElem?_eq_some_iff.mp I.hd).1
  generalize hrm : f.map (·.1) = rooms
  have nd : rooms.Nodup := hrm ▸ I.nd
  have rl : rooms.length = f.length := by rw [← hrm, List.length_map]
  have rt : ∀ r ∈ rooms, r < rows.length := fun a ha => by
    rw [← hrm] at ha
    obtain ⟨p, hp, rfl⟩ := List.mem_map.mp ha
    exact I.inv (P := fun a => a < rows.length) M.pos (fun a k h1 h2 => C a h1 k h2) p hp
  have fr : ∀ x < f.length, f[x]? = some (it f x) ∧ (it f x).1 = nth rooms x := fun x hx => by
    refine ⟨it_get hx, ?_⟩
    rw [← hrm]
    exact (nth_of (by rw [List.getElem?_map, it_get hx]; rfl)).symm
  -- where a letter leads
  have stp : ∀ x < rooms.length, ∀ k < s.length, go rows (nth rooms x) k ∈ rooms := fun x hx k hk => by
    obtain ⟨h1, h2⟩ := fr x (by omega)
    obtain ⟨w, h3, _⟩ := I.cl x _ h1 k hk (.inl (by omega))
    rw [h2] at h3
    have h4 : go rows (nth rooms x) k ∈ f.map (·.1) := List.mem_map.mpr ⟨_, h3, rfl⟩
    rwa [hrm] at h4
  generalize hws : (rooms.map fun r => (it rows r).map fun g => rooms.idxOf g) = ws
  have wsr : ∀ x < rooms.length, it ws x = (it rows (nth rooms x)).map fun g => rooms.idxOf g := fun x hx => by
    rw [← hws]; exact it_of (by rw [List.getElem?_map, nth_get hx]; rfl)
  have wl : ws.length = rooms.length := by rw [← hws, List.length_map]
  have rowl : ∀ x < rooms.length, (it rows (nth rooms x)).length = s.length := fun x hx => (R.row _ (rt _ (nth_mem hx))).1
  have gw : ∀ x < rooms.length, ∀ k < s.length, go ws x k = rooms.idxOf (go rows (nth rooms x) k) := fun x hx k hk => by
    show nth (it ws x) k = _
    rw [wsr x hx]
    exact nth_map _ (by rw [rowl x hx]; exact hk)
  have inr : ∀ x < rooms.length, ∀ g ∈ it rows (nth rooms x), g ∈ rooms := fun x hx g hg => by
    obtain ⟨k, hk, e⟩ := nth_ix hg
    rw [← e]; exact stp x hx k (by rw [← rowl x hx]; exact hk)
  have RW : Rws s.length rooms.length ws := ⟨wl, fun x hx => by
    rw [wsr x hx]
    refine ⟨by rw [List.length_map, rowl x hx], fun g hg => ?_⟩
    obtain ⟨g', h1, rfl⟩ := List.mem_map.mp hg
    exact (idx_nth (inr x hx g' h1)).1⟩
  have P : Places s.length (go rows) f (go ws) := fun x p hp k hk => by
    have hx : x < rooms.length := by rw [rl]; exact (List.getElem?_eq_some_iff.mp hp).1
    obtain ⟨h1, h2⟩ := idx_nth (stp x hx k hk)
    obtain ⟨h3, h4⟩ := fr (go ws x k) (by rw [gw x hx k hk, ← rl]; exact h1)
    refine ⟨_, h3, ?_⟩
    rw [h4, gw x hx k hk, h2]
    obtain ⟨h5, h6⟩ := fr x (by omega)
    rw [h5] at hp; cases hp
    rw [h6]
  have hmk : (rooms.map fun r => it marks r).length = rooms.length := List.length_map ..
  have mkr : ∀ x < rooms.length, it (rooms.map fun r => it marks r) x = it marks (nth rooms x) := fun x hx => it_of (by rw [List.getElem?_map, nth_get hx]; rfl)
  obtain ⟨told, lots, e1, T⟩ := rounds_ok (most := rooms.length) RW (by omega) (by omega) sl hmk
  have ne : told ≠ [] := fun z => by have := T.ne; rw [z] at this; cases this
  have tp : 0 < told.length := List.length_pos_iff.mpr ne
  have elast : it told (told.length - 1) = lots := it_of (by have := T.ne; rw [List.getLast?_eq_getElem?] at this; exact this)
  have LL : Lots s.length rooms.length (go ws) (it (rooms.map fun r => it marks r)) (told.length - 1) lots := T.lots _ _ (by have := T.ne; rw [List.getLast?_eq_getElem?] at this; exact this)
  have al := T.fin.resolve_left (by have := lots_lt LL (by omega); omega)
  obtain ⟨reps, e2, F⟩ := thinned_ok (s := s) RW (by omega) sl hmk LL.len LL.gr
  have Q : Quo s.length rooms.length (go ws) (it (rooms.map fun r => it marks r)) lots reps (go (reps.map fun p => (it ws p).map (nth lots))) (it (reps.map fun p => it (rooms.map fun r => it marks r) p)) := by
    refine ⟨by omega, RW.clo, LL.len, LL.gr, al, F, fun x hx k hk => ?_, fun x hx => ?_⟩
    · have h1 := (F.lt x hx).1
      show nth (it _ x) k = _
      rw [it_of (x := (it ws (nth reps x)).map (nth lots)) (by rw [List.getElem?_map, nth_get hx]; rfl)]
      exact nth_map _ (by rw [(RW.row _ h1).1]; exact hk)
    · exact it_of (by rw [List.getElem?_map, nth_get hx]; rfl)
  have K := Q.canon (fun x hx => by
    obtain ⟨h1, h2⟩ := fr x (by omega)
    exact ⟨_, P.rch I h1⟩) (by rw [rl]; exact P.ord I (Nat.le_refl _))
  have rpl : (reps.map fun p => (it ws p).map (nth lots)).length = reps.length := List.length_map ..
  have hrp : reps.length ≤ rooms.length := by
    have h1 := F
    have h2 := LL.len
    rw [← h2] at h1
    rw [h1.count (by omega)]
    have := lots_lt LL (by omega); omega
  refine ⟨reps.map fun p => (it ws p).map (nth lots), reps.map fun p => it (rooms.map fun r => it marks r) p, ?_, ⟨L, by rw [rpl]; exact K.pos, fun r hr => ?_, by rw [List.length_map, List.length_map]⟩, by rw [rpl]; exact K, by rw [rpl]; omega, fun w hw => ?_⟩
  rotate_left
  · obtain ⟨p, hp, rfl⟩ := List.mem_map.mp hr
    obtain ⟨x, hx, rfl⟩ := nth_ix hp
    have h1 := (F.lt x hx).1
    obtain ⟨h2, h3⟩ := RW.row _ h1
    refine ⟨by rw [List.length_map, h2], fun g hg => ?_⟩
    obtain ⟨g', h4, rfl⟩ := List.mem_map.mp hg
    rw [rpl]; exact F.all _ (h3 g' h4)
  · rw [Q.lang hw]
    obtain ⟨q, h1, h2⟩ := P.far I w hw
    have hx : goes (go ws) 0 w < rooms.length := by rw [rl]; exact (List.getElem?_eq_some_iff.mp h1).1
    rw [mkr _ hx]
    obtain ⟨h3, h4⟩ := fr (goes (go ws) 0 w) (by omega)
    rw [h3] at h1; cases h1
    rw [← h4, h2]
  -- the walk
  refine mk_of rfl ?_
  unfold i_least
  have fe : ∀ x, FE s x = .tup [.int x.1, .str (sp s x.2)] := fun _ => rfl
  dsimp! [f_least_37, ef]
  rw [comp_of (fun p => .int (p.1 : Nat)) rfl (by omega) fun i x hx hi => ⟨_, rfl, .val, by decide, by dsimp! [fe x]⟩]
  have er : (f.map fun p => RA.D.int (p.1 : Nat)) = rooms.map (fun (n : Nat) => RA.D.int n) := by rw [← hrm, List.map_map]; rfl
  rw [er]
  dsimp! [up_nil]
  refine for_map (fun G0 i G => ∃ t : Option RA.D, G = up G0 [(2, some (true, .dct (kv (fun (n : Nat) => RA.D.int n) (dN (PL rooms i))))), (3, t.map fun d => (false, d))]) ⟨none, rfl⟩ ?_ ?_
  · rintro i x G hx hi ⟨t, rfl⟩
    refine ⟨_, rfl, ?_⟩
    have ex := nth_of hx
    have g1 := K_len_aux (PL rooms i)
    rw [PL_len] at g1
    have g2 : ∀ G, putO G 2 (.ok (.val, .int (i : Nat))) (.ok (.val, .int (x : Nat))) (some (some (true, .dct (kv (fun (n : Nat) => RA.D.int n) (dN (PL rooms i)))))) = .nx (G.set 2 (some (true, .dct (kv (fun (n : Nat) => RA.D.int n) (dN (PL rooms (i + 1))))))) := fun G => by
      have := kv_putO keyN (G := G) (i := 2) (l := dN (PL rooms i)) (x := .val) (g := .val) (a := x) (d := .int (i : Nat)) (line_lt (by rw [dN_len, PL_len]; omega)) (by rw [dN_fst, PL_fst (by omega), ← ex]; exact not_takeN nd hi)
      rw [this, if_neg (by decide), PL_succ, dN_app, ex]; rfl
    dsimp! [g1, g2]
    exact ⟨some _, rfl⟩
  · rintro G ⟨t, rfl⟩
    have pf := PL_fst (Nat.le_refl rooms.length)
    rw [List.take_length] at pf
    have lkp : ∀ g ∈ rooms, ixD (.dct (kv (fun (n : Nat) => RA.D.int n) (dN (PL rooms rooms.length)))) (.int (g : Nat)) = .ok (.int (rooms.idxOf g : Nat)) := fun g hg => by
      obtain ⟨h1, h2⟩ := idx_nth hg
      refine kv_ix keyN (dN_lk (by rw [pf]; exact nd) ?_)
      unfold PL
      exact List.mem_map.mpr ⟨_, List.mem_range.mpr h1, by rw [h2]⟩
    dsimp! [up_nil]
    refine for_map (fun G0 i G => ∃ t : Option RA.D, G = up G0 [(3, t.map fun d => (false, d)), (4, some (true, .lst ((ws.take i).map LROW)))]) ⟨t, by rw [List.take_zero]; rfl⟩ ?_ ?_
    · rintro i x G hx hi ⟨t, rfl⟩
      refine ⟨_, rfl, ?_⟩
      have ex := nth_of hx
      have hxr : x < rows.length := rt x (List.mem_of_getElem? hx)
      have tk : (ws.take i).length ≤ 1000 := by rw [List.length_take]; omega
      have rx := (R.row x hxr).1
      dsimp! [up_nil]
      rw [comp_of (fun g => .int (rooms.idxOf g : Nat)) rfl (by omega) fun j y hy hj => ⟨_, rfl, .val, by decide, by
        have hy : y ∈ rooms := inr i hi y (by rw [ex]; exact List.mem_of_getElem? hy)
        dsimp! [lkp y hy]⟩]
      dsimp! [up_nil]
      refine ⟨some (.int (x : Nat)), ?_⟩
      have hw2 : ws[i]? = some ((it rows x).map fun g => rooms.idxOf g) := by rw [it_get (by omega), wsr i hi, ex]
      rw [take_snoc hw2, List.map_append, List.map_cons, List.map_nil]
      show _ = [_, _, _, _, some (true, RA.D.lst ((ws.take i).map LROW ++ [RA.D.lst (((it rows x).map fun g => rooms.idxOf g).map (fun (n : Nat) => RA.D.int n))])), _, _, _, _]
      rw [List.map_map]; rfl
    · rintro G ⟨t, rfl⟩
      rw [show rooms.length = ws.length from wl.symm, List.take_length]
      dsimp! [up_nil]
      rw [comp_of (fun r => .bl (it marks r)) (by cases t <;> rfl) (by omega) fun j y hy hj => ⟨_, rfl, .val, by decide, by
        have hy := rt y (List.mem_of_getElem? hy)
        have := M.mkl
        dsimp! [up_nil]⟩]
      have e1 : m_rounds [.lst (ws.map LROW), .lst (rooms.map fun r => .bl (it marks r)), .int (ws.length : Nat)] = .ok (true, .lst (told.map LROW)) := by rw [← e1, wl, List.map_map]; rfl
      have e2 : m_thinned [.str s, .lst (ws.map LROW), .lst (rooms.map fun r => .bl (it marks r)), .lst (lots.map (fun (n : Nat) => RA.D.int n))] = .ok (false, mD s (reps.map fun p => (it ws p).map (nth lots)) (reps.map fun p => it (rooms.map fun r => it marks r) p)) := by rw [← e2, List.map_map]; rfl
      dsimp! [f_least_46, e1, elast, f_least_43, e2]
end RA
/-! W9: what is a machine; two gone through together. -/
namespace RA
open PySem PySem.Spec PyProof.Rows L2
local macro_rules | `(tactic| dsimp! [$xs,*]) => `(tactic| simp (disch := first | assumption | omega | (simp only [List.length_map, List.length_append, List.length_cons, List.length_nil, List.length_range, List.length_set]; omega) | decide | rfl) only [tstO_eq, x_seq, x_set, x_own, x_do, x_if, x_for, x_whl, x_ret, x_retN, x_pass, x_brk, x_cnt, x_rse, x_fgt, x_frz, x_retp, x_app, x_aug, x_unp, x_put, e_v, e_pk, e_k, e_gl, e_b, e_neg, e_cmp, e_and, e_or, e_not, e_ife, e_tup, e_lst, e_dct, e_dct1, e_lset, e_ix, e_sl, e_rv, rv_lst, e_out, e_bi, e_me, e_call, es_nil, es_cons, i_ex, i_rng1, i_rng2, i_zip, i_rev, valO_ok, pkO_ok, glO_ok, negO_ok, frzO_ok, retO_ok, augO_add, augO_sub, walkO_lst, walkO_tup, walkO_str, zipO_ok, zipI_ok, revO_ok, asB_ok, items_lst, items_tup, items_str, bindT_one, bindT_tup, setAll_nil, setAll_cons, forget_nil, forget_cons, prt_int, prt_out, isOut, keepOk_nil, keepOk_cons, recv_str, b_add, b_sub, c_lt, c_le, c_gt, c_ge, c_ltS, c_gtS, c_eqI, c_neI, c_eqS, c_neS, c_eqB, c_neB, c_isn, c_isnt, c_memS, c_nmemS, sl_lst, len_lst, len_tup, is_str, is_intI, is_boolI, is_boolB, tuple_lst, list_lst, list_tup, find_one, seqO_nx, seqO_no, seqO_rt, seqO_ex, seqO_bk, seqO_ct, seqO_seqO, seqO_ite, x_nil, sat_nx, sat_rt, sat_ex, sat_thru, sat_thru_ct, sat_nxt, sat_t1, sat_t1c, sat_t1r, sat_t1e, Rs.bind_ok, Rs.bind_ex, Rs.out_ok, Rs.out_ex, List.set_cons_succ, List.set_cons_zero, List.getElem?_cons_succ, List.getElem?_cons_zero, List.map_cons, List.map_nil, List.cons_append, List.nil_append, startG, List.reduceReplicate, List.length_cons, List.length_nil, Nat.reduceAdd, Nat.reduceSub, Nat.zero_add, Nat.add_zero, Nat.zero_le, Nat.reduceLeDiff, List.append_nil, reduceCtorEq, if_true, if_false, ite_true, ite_false, ne_eq, not_false_eq_true, not_true_eq_false, decide_true, decide_false, decide_not, Bool.not_true, Bool.not_false, Bool.and_true, Bool.true_and, Bool.and_self, Bool.false_eq_true, and_self, and_true, true_and, decide_eq_true_eq, Int.reduceEq, Int.cast_ofNat_Int, Int.reduceNe, Int.reduceLT, Int.reduceLE, Int.reduceNeg, Int.reduceAdd, Int.reduceSub, tgSlots, freeAt, List.all_cons, List.all_nil, up_nil, up_cons, tn_nx, tn_ct, tn_bk, tn_rt, tn_ex, b_fdiv, b_mod, max_two, min_two, ixl, ixt, ixl_last, ixl_zero, ixt_zero, ixs, ixs_last, ixT0, ixT1, ixT12, ixT22, ixL0, ixL1, ixM0, ixM1, ixM2, lenS, slS, rvS, catS, appL, unp2, unp3, r1, r2, r2one, e_comp2, it_nth, nat1, nat1l, natA, natM, natD, natR, natS, natS1, natE, natL, natLe, natL0, natN0, nat0, max_nats, Bool.not_eq_true', Bool.not_eq_false', List.length_map, List.length_append, List.length_range, Bool.true_or, Bool.false_or, Bool.or_true, Bool.or_false, Bool.and_false, Bool.false_and, Bool.or_self, decide_eq_false_iff_not, Nat.lt_irrefl, Bool.not_eq_eq_eq_not, not_true, not_false_iff, Nat.not_lt_zero, $xs,*])
theorem kT_old {α : Type} [DecidableEq α] {f : α → RA.D} (K : KeyF f) {l : List α} {a : α} (h : a ∈ l) : cmpD .nmem (f a) (.dct (kv f (kT l))) = .ok false := by rw [kT_nmem K, decide_eq_true h]; rfl
theorem kT_new {α : Type} [DecidableEq α] {f : α → RA.D} (K : KeyF f) {l : List α} {a : α} (h : a ∉ l) : cmpD .nmem (f a) (.dct (kv f (kT l))) = .ok true := by rw [kT_nmem K, decide_eq_false h]; rfl
/-- both gone through together -/
def both2 (g1 g2 : Nat → Nat → Nat) : Nat × Nat → Nat → Nat × Nat := fun p k => (g1 p.1 k, g2 p.2 k)
theorem both2_goes {g1 g2 : Nat → Nat → Nat} {p : Nat × Nat} : ∀ {w : List Nat}, goes (both2 g1 g2) p w = (goes g1 p.1 w, goes g2 p.2 w) := by
  intro w
  refine snoc_ind (P := fun w => goes (both2 g1 g2) p w = (goes g1 p.1 w, goes g2 p.2 w)) rfl (fun w k ih => ?_) w
  rw [goes_snoc, goes_snoc, goes_snoc, ih]; rfl
abbrev PE2 : Nat × Nat → RA.D := fun p => .tup [.int p.1, .int p.2]
theorem both2_size {m n1 n2 : Nat} {g1 g2 : Nat → Nat → Nat} {l r : Nat} {f : List ((Nat × Nat) × List Nat)} {i j : Nat} (I : Bfs m (both2 g1 g2) (l, r) f i j) (c1 : Clo m n1 g1) (c2 : Clo m n2 g2) (hl : l < n1) (hr : r < n2) : (∀ q ∈ f, q.1.1 < n1 ∧ q.1.2 < n2) ∧ f.length ≤ n1 * n2 := by
  have inv : ∀ q ∈ f, q.1.1 < n1 ∧ q.1.2 < n2 := I.inv (P := fun a => a.1 < n1 ∧ a.2 < n2) ⟨hl, hr⟩ fun a k h hk => ⟨c1 _ h.1 k hk, c2 _ h.2 k hk⟩
  refine ⟨inv, I.size (n1 * n2) (fun p => p.1 * n2 + p.2) (fun a ha b hb e => ?_) fun a ha => ?_⟩
  · obtain ⟨p, hp, rfl⟩ := List.mem_map.mp ha
    obtain ⟨q, hq, rfl⟩ := List.mem_map.mp hb
    have h1 := inv p hp
    have h2 := inv q hq
    have e : p.1.1 * n2 + p.1.2 = q.1.1 * n2 + q.1.2 := e
    have e1 : p.1.1 = q.1.1 := by
      have a1 : (p.1.1 * n2 + p.1.2) / n2 = p.1.1 := by rw [Nat.mul_comm, Nat.mul_add_div (by omega), Nat.div_eq_of_lt h1.2, Nat.add_zero]
      have a2 : (q.1.1 * n2 + q.1.2) / n2 = q.1.1 := by rw [Nat.mul_comm, Nat.mul_add_div (by omega), Nat.div_eq_of_lt h2.2, Nat.add_zero]
      rw [← a1, ← a2, e]
    have e2 : p.1.2 = q.1.2 := by rw [e1] at e; omega
    exact Prod.ext e1 e2
  · obtain ⟨p, hp, rfl⟩ := List.mem_map.mp ha
    have h1 := inv p hp
    show p.1.1 * n2 + p.1.2 < n1 * n2
    calc p.1.1 * n2 + p.1.2 < p.1.1 * n2 + n2 := by omega
      _ = (p.1.1 + 1) * n2 := (Nat.succ_mul _ _).symm
      _ ≤ n1 * n2 := Nat.mul_le_mul_right _ h1.1
end RA
/-! W10: words of places and of signs; words that part. -/
namespace RA
open PySem PySem.Spec PyProof.Rows L2
local macro_rules | `(tactic| dsimp! [$xs,*]) => `(tactic| simp (disch := first | assumption | omega | (simp only [List.length_map, List.length_append, List.length_cons, List.length_nil, List.length_range, List.length_set]; omega) | decide | rfl) only [tstO_eq, x_seq, x_set, x_own, x_do, x_if, x_for, x_whl, x_ret, x_retN, x_pass, x_brk, x_cnt, x_rse, x_fgt, x_frz, x_retp, x_app, x_aug, x_unp, x_put, e_v, e_pk, e_k, e_gl, e_b, e_neg, e_cmp, e_and, e_or, e_not, e_ife, e_tup, e_lst, e_dct, e_dct1, e_lset, e_ix, e_sl, e_rv, rv_lst, e_out, e_bi, e_me, e_call, es_nil, es_cons, i_ex, i_rng1, i_rng2, i_zip, i_rev, valO_ok, pkO_ok, glO_ok, negO_ok, frzO_ok, retO_ok, augO_add, augO_sub, walkO_lst, walkO_tup, walkO_str, zipO_ok, zipI_ok, revO_ok, asB_ok, items_lst, items_tup, items_str, bindT_one, bindT_tup, setAll_nil, setAll_cons, forget_nil, forget_cons, prt_int, prt_out, isOut, keepOk_nil, keepOk_cons, recv_str, b_add, b_sub, c_lt, c_le, c_gt, c_ge, c_ltS, c_gtS, c_eqI, c_neI, c_eqS, c_neS, c_eqB, c_neB, c_isn, c_isnt, c_memS, c_nmemS, sl_lst, len_lst, len_tup, is_str, is_intI, is_boolI, is_boolB, tuple_lst, list_lst, list_tup, find_one, seqO_nx, seqO_no, seqO_rt, seqO_ex, seqO_bk, seqO_ct, seqO_seqO, seqO_ite, x_nil, sat_nx, sat_rt, sat_ex, sat_thru, sat_thru_ct, sat_nxt, sat_t1, sat_t1c, sat_t1r, sat_t1e, Rs.bind_ok, Rs.bind_ex, Rs.out_ok, Rs.out_ex, List.set_cons_succ, List.set_cons_zero, List.getElem?_cons_succ, List.getElem?_cons_zero, List.map_cons, List.map_nil, List.cons_append, List.nil_append, startG, List.reduceReplicate, List.length_cons, List.length_nil, Nat.reduceAdd, Nat.reduceSub, Nat.zero_add, Nat.add_zero, Nat.zero_le, Nat.reduceLeDiff, List.append_nil, reduceCtorEq, if_true, if_false, ite_true, ite_false, ne_eq, not_false_eq_true, not_true_eq_false, decide_true, decide_false, decide_not, Bool.not_true, Bool.not_false, Bool.and_true, Bool.true_and, Bool.and_self, Bool.false_eq_true, and_self, and_true, true_and, decide_eq_true_eq, Int.reduceEq, Int.cast_ofNat_Int, Int.reduceNe, Int.reduceLT, Int.reduceLE, Int.reduceNeg, Int.reduceAdd, Int.reduceSub, tgSlots, freeAt, List.all_cons, List.all_nil, up_nil, up_cons, tn_nx, tn_ct, tn_bk, tn_rt, tn_ex, b_fdiv, b_mod, max_two, min_two, ixl, ixt, ixl_last, ixl_zero, ixt_zero, ixs, ixs_last, ixT0, ixT1, ixT12, ixT22, ixL0, ixL1, ixM0, ixM1, ixM2, lenS, slS, rvS, catS, appL, unp2, unp3, r1, r2, r2one, e_comp2, it_nth, nat1, nat1l, natA, natM, natD, natR, natS, natS1, natE, natL, natLe, natL0, natN0, nat0, max_nats, Bool.not_eq_true', Bool.not_eq_false', List.length_map, List.length_append, List.length_range, Bool.true_or, Bool.false_or, Bool.or_true, Bool.or_false, Bool.and_false, Bool.false_and, Bool.or_self, decide_eq_false_iff_not, Nat.lt_irrefl, Bool.not_eq_eq_eq_not, not_true, not_false_iff, Nat.not_lt_zero, $xs,*])
section
variable {s : List Nat}
theorem sp_ov {w : List Nat} (h : Wd s.length w) : Ov s (sp s w) := fun c hc => by
  obtain ⟨k, hk, rfl⟩ := List.mem_map.mp hc
  exact nth_mem (h k hk)
theorem find_nth (L : Ltrs s) {k : Nat} (hk : k < s.length) : findL s (nth s k) = k := find_pos L.nd (nth_get hk)
theorem lead_sp (L : Ltrs s) {rows : List (List Nat)} {r : Nat} : ∀ {w : List Nat}, Wd s.length w → lead s rows r (sp s w) = goes (go rows) r w := by
  intro w
  refine snoc_ind (P := fun w => Wd s.length w → lead s rows r (sp s w) = goes (go rows) r w) (fun _ => rfl) (fun w k ih hw => ?_) w
  rw [sp_snoc, lead_snoc, goes_snoc, ih hw.left]
  unfold way
  rw [find_nth L hw.last, Int.toNat_natCast]; rfl
theorem ov_sp {u : List Nat} (h : Ov s u) : ∃ w, Wd s.length w ∧ sp s w = u := by
  induction u with
  | nil => exact ⟨[], Wd.nil, rfl⟩
  | cons c u ih =>
    obtain ⟨w, h1, h2⟩ := ih h.tail
    obtain ⟨k, hk, e⟩ := nth_ix h.head
    exact ⟨k :: w, h1.cons hk, by unfold sp at h2 ⊢; rw [List.map_cons, h2, e]⟩
theorem sp_app {u w : List Nat} : sp s (u ++ w) = sp s u ++ sp s w := List.map_append
end
/-- a word, or none -/
def oS (s : List Nat) : Option (List Nat) → RA.D
  | some w => .str (sp s w)
  | none => .non
/-- the first word of which p is not so -/
def First (m : Nat) (same : List Nat → Prop) : Option (List Nat) → Prop
  | none => ∀ w, Wd m w → same w
  | some w => Wd m w ∧ ¬ same w ∧ ∀ u, Wd m u → num m u < num m w → same u
theorem First.uniq {m : Nat} {same : List Nat → Prop} : ∀ {r r' : Option (List Nat)}, First m same r → First m same r' → r = r'
  | none, none, _, _ => rfl
  | none, some w, h, h' => absurd (h w h'.1) h'.2.1
  | some w, none, h, h' => absurd (h' w h.1) h.2.1
  | some w, some u, h, h' => by
    have : ¬ num m u < num m w := fun z => h'.2.1 (h.2.2 u h'.1 z)
    have : ¬ num m w < num m u := fun z => h.2.1 (h'.2.2 w h.1 z)
    rw [num_inj h.1 h'.1 (by omega)]
theorem First.imp {m : Nat} {p q : List Nat → Prop} {r : Option (List Nat)} (h : First m p r) (e : ∀ w, Wd m w → (p w ↔ q w)) : First m q r := by
  cases r with
  | none => exact fun w hw => (e w hw).mp (h w hw)
  | some w => exact ⟨h.1, fun z => h.2.1 ((e w h.1).mpr z), fun u hu hl => (e u hu).mp (h.2.2 u hu hl)⟩
section
variable {s : List Nat} {rows rows' : List (List Nat)} {marks marks' : List Bool}
theorem first_parted_ok (M : Mach s rows marks) (M' : Mach s rows' marks') (hn : rows.length ≤ 100) (hn' : rows'.length ≤ 100) {l r : Nat} (hl : l < rows.length) (hr : r < rows'.length) :
    ∃ x, m_first_parted [mD s rows marks, .int l, mD s rows' marks', .int r] = .ok (false, oS s x) ∧ First s.length (fun w => it marks (goes (go rows) l w) = it marks' (goes (go rows') r w)) x ∧ ∀ w, x = some w → w.length < rows.length * rows'.length := by
  refine mk_sat (R := fun z => ∃ x, z = .ok (false, oS s x) ∧ First s.length (fun w => it marks (goes (go rows) l w) = it marks' (goes (go rows') r w)) x ∧ ∀ w, x = some w → w.length < rows.length * rows'.length) rfl ?_
  unfold i_first_parted
  have L := M.ltrs
  have sl := L.le
  have R := M.rws
  have R' := M'.rws
  have mkl := M.mkl
  have mkl' := M'.mkl
  have nn : rows.length * rows'.length ≤ 10000 := Nat.mul_le_mul hn hn'
  have d0 : ∀ g, dct1O (g, .tup [.int l, .int r]) (.val, .bl true) = _ := fun g => kT_one keyNN (a := (l, r)) (g := g)
  dsimp! [d0]
  refine whl_at (fun G0 v G => ∃ (f : List ((Nat × Nat) × List Nat)) (i : Nat) (t8 t9 t10 t11 t12 : Option (Bool × RA.D)), G = up G0 [(5, some (true, .dct (kv PE2 (kT (f.map (·.1)))))), (6, some (true, .lst (f.map fun p => .tup [.int p.1.1, .int p.1.2, .str (sp s p.2)]))), (7, some (false, .int (i : Nat))), (8, t8), (9, t9), (10, t10), (11, t11), (12, t12)] ∧ Bfs s.length (both2 (go rows) (go rows')) (l, r) f i 0 ∧ i ≤ f.length ∧ v + i = rows.length * rows'.length ∧ ∀ x < i, it marks (it f x).1.1 = it marks' (it f x).1.2) (rows.length * rows'.length) (by omega) ⟨[((l, r), [])], 0, none, none, none, none, none, rfl, Bfs.start, Nat.zero_le _, rfl, fun x h => absurd h (Nat.not_lt_zero _)⟩ ?_
  rintro v G ⟨f, i, t8, t9, t10, t11, t12, rfl, I, hi, hv, hm⟩
  obtain ⟨inv, fl⟩ := both2_size I R.clo R'.clo hl hr
  have fml : (f.map (·.1)).length = f.length := List.length_map ..
  by_cases hc : i < f.length
  · refine .inr ⟨by dsimp! [hc], ?_⟩
    have hp := it_get hc
    obtain ⟨a1, a2⟩ := inv _ (it_mem hc)
    obtain ⟨w1, w2, w3⟩ := I.it _ (it_mem hc)
    have ixf : ixD (.lst (f.map fun p => .tup [.int p.1.1, .int p.1.2, .str (sp s p.2)])) (.int (i : Nat)) = .ok (.tup [.int (it f i).1.1, .int (it f i).1.2, .str (sp s (it f i).2)]) := ixl hc
    have bef := I.before hp
    generalize hz : it f i = p at *
    obtain ⟨⟨p1, p2⟩, w⟩ := p
    have a1 : p1 < rows.length := a1
    have a2 : p2 < rows'.length := a2
    have w1 : Wd s.length w := w1
    have w3 : w.length < f.length := w3
    have wl : (sp s w).length = w.length := sp_len
    obtain ⟨h1, h2⟩ := R.row p1 a1
    obtain ⟨h1', h2'⟩ := R'.row p2 a2
    have ixf : ixD (.lst (f.map fun p => .tup [.int p.1.1, .int p.1.2, .str (sp s p.2)])) (.int (i : Nat)) = .ok (.tup [.int p1, .int p2, .str (sp s w)]) := ixf
    have eg := both2_goes (g1 := go rows) (g2 := go rows') (p := (l, r)) (w := w)
    rw [w2] at eg
    have e1 : p1 = goes (go rows) l w := congrArg Prod.fst eg
    have e2 : p2 = goes (go rows') r w := congrArg Prod.snd eg
    by_cases q : it marks p1 = it marks' p2
    · dsimp! [ixf, q]
      refine for_rng (fun G0 k G => ∃ (f : List ((Nat × Nat) × List Nat)) (t8 t12 : Option (Bool × RA.D)), G = up G0 [(5, some (true, .dct (kv PE2 (kT (f.map (·.1)))))), (6, some (true, .lst (f.map fun p => .tup [.int p.1.1, .int p.1.2, .str (sp s p.2)]))), (8, t8), (12, t12)] ∧ Bfs s.length (both2 (go rows) (go rows')) (l, r) f i k ∧ f[i]? = some ((p1, p2), w) ∧ ∀ x < i, it marks (it f x).1.1 = it marks' (it f x).1.2) ⟨f, t8, t12, rfl, I, hp, hm⟩ ?_ ?_
      · rintro k G hk ⟨f, t8, t12, rfl, I, hp, hm⟩
        refine ⟨_, rfl, ?_⟩
        obtain ⟨inv, fl⟩ := both2_size I R.clo R'.clo hl hr
        have fml : (f.map (·.1)).length = f.length := List.length_map ..
        have hc := (List.getElem?_eq_some_iff.mp hp).1
        have P := I.put hk hp
        have es : (both2 (go rows) (go rows') ((p1, p2), w).1 k) = (nth (it rows p1) k, nth (it rows' p2) k) := rfl
        unfold bput at P
        rw [es] at P
        by_cases z : (nth (it rows p1) k, nth (it rows' p2) k) ∈ f.map (·.1)
        · rw [if_pos z] at P
          have g0 : cmpD .nmem (.tup [.int (nth (it rows p1) k : Nat), .int (nth (it rows' p2) k : Nat)]) (.dct (kv PE2 (kT (f.map (·.1))))) = .ok false := kT_old keyNN z
          dsimp! [h1, h1', g0]
          exact ⟨f, _, _, rfl, P.1, P.2, hm⟩
        · rw [if_neg z] at P
          have g0 : cmpD .nmem (.tup [.int (nth (it rows p1) k : Nat), .int (nth (it rows' p2) k : Nat)]) (.dct (kv PE2 (kT (f.map (·.1))))) = .ok true := kT_new keyNN z
          have g1 : ∀ G, putO G 5 (.ok (.val, .bl true)) (.ok (.val, .tup [.int (nth (it rows p1) k : Nat), .int (nth (it rows' p2) k : Nat)])) (some (some (true, .dct (kv PE2 (kT (f.map (·.1))))))) = .nx (G.set 5 (some (true, .dct (kv PE2 (kT (f.map (·.1) ++ [(nth (it rows p1) k, nth (it rows' p2) k)])))))) := fun G => kT_put keyNN (by omega) z
          dsimp! [h1, h1', g0, g1, wl]
          refine ⟨f ++ [((nth (it rows p1) k, nth (it rows' p2) k), w ++ [k])], some (false, .int (k : Nat)), some (false, .tup [.int (nth (it rows p1) k : Nat), .int (nth (it rows' p2) k : Nat)]), ?_, P.1, P.2, fun x hx => by rw [it_app (by omega)]; exact hm x hx⟩
          rw [List.map_append, List.map_append, ← sp_snoc]; rfl
      · rintro G ⟨f, t8, t12, rfl, I, hp, hm⟩
        obtain ⟨inv, fl⟩ := both2_size I.next R.clo R'.clo hl hr
        have hc := (List.getElem?_eq_some_iff.mp hp).1
        dsimp! [up_nil]
        refine ⟨v - 1, by omega, f, i + 1, _, _, _, _, _, rfl, I.next, hc, by omega, fun x hx => ?_⟩
        by_cases z : x < i
        · exact hm x z
        · have : x = i := by omega
          subst this
          rw [it_of hp]; exact q
    · dsimp! [ixf, q]
      refine ⟨some w, rfl, ⟨w1, fun h => q (by rw [e1, e2]; exact h), fun u hu hlt => ?_⟩, fun w' e => by cases e; omega⟩
      obtain ⟨i', v', g1, g2, _⟩ := bef u hu hlt
      have := hm i' g1
      rw [it_of g2, both2_goes] at this
      exact this
  · refine .inl ⟨by dsimp! [hc], ?_⟩
    dsimp! [up_nil]
    refine ⟨none, rfl, fun w hw => ?_, fun w h => by cases h⟩
    obtain ⟨u, h1, _⟩ := I.done (by omega) w hw
    rw [both2_goes] at h1
    obtain ⟨x, hx, e⟩ := List.mem_iff_getElem.mp h1
    have := hm x (by omega)
    rw [it_of (x := ((goes (go rows) l w, goes (go rows') r w), u)) (by rw [List.getElem?_eq_getElem hx, e])] at this
    exact this
theorem parting_ok (M : Mach s rows marks) (hn : rows.length ≤ 100) {l r : Nat} (hl : l < rows.length) (hr : r < rows.length) :
    ∃ x, m_parting [mD s rows marks, .int l, .int r] = .ok (false, oS s x) ∧ First s.length (fun w => it marks (goes (go rows) l w) = it marks (goes (go rows) r w)) x ∧ ∀ w, x = some w → w.length < rows.length * rows.length := by
  obtain ⟨x, h1, h2⟩ := first_parted_ok M M hn hn hl hr
  refine ⟨x, mk_of rfl ?_, h2⟩
  unfold i_parting
  have n1 : ¬ rows.length ≤ l := by omega
  have n2 : ¬ rows.length ≤ r := by omega
  dsimp! [f_parting_52, h1, n1, n2]
end
end RA
/-! W11: the same data. -/
namespace RA
open PySem PySem.Spec PyProof.Rows L2
local macro_rules | `(tactic| dsimp! [$xs,*]) => `(tactic| simp (disch := first | assumption | omega | (simp only [List.length_map, List.length_append, List.length_cons, List.length_nil, List.length_range, List.length_set]; omega) | decide | rfl) only [tstO_eq, x_seq, x_set, x_own, x_do, x_if, x_for, x_whl, x_ret, x_retN, x_pass, x_brk, x_cnt, x_rse, x_fgt, x_frz, x_retp, x_app, x_aug, x_unp, x_put, e_v, e_pk, e_k, e_gl, e_b, e_neg, e_cmp, e_and, e_or, e_not, e_ife, e_tup, e_lst, e_dct, e_dct1, e_lset, e_ix, e_sl, e_rv, rv_lst, e_out, e_bi, e_me, e_call, es_nil, es_cons, i_ex, i_rng1, i_rng2, i_zip, i_rev, valO_ok, pkO_ok, glO_ok, negO_ok, frzO_ok, retO_ok, augO_add, augO_sub, walkO_lst, walkO_tup, walkO_str, zipO_ok, zipI_ok, revO_ok, asB_ok, items_lst, items_tup, items_str, bindT_one, bindT_tup, setAll_nil, setAll_cons, forget_nil, forget_cons, prt_int, prt_out, isOut, keepOk_nil, keepOk_cons, recv_str, b_add, b_sub, c_lt, c_le, c_gt, c_ge, c_ltS, c_gtS, c_eqI, c_neI, c_eqS, c_neS, c_eqB, c_neB, c_isn, c_isnt, c_memS, c_nmemS, sl_lst, len_lst, len_tup, is_str, is_intI, is_boolI, is_boolB, tuple_lst, list_lst, list_tup, find_one, seqO_nx, seqO_no, seqO_rt, seqO_ex, seqO_bk, seqO_ct, seqO_seqO, seqO_ite, x_nil, sat_nx, sat_rt, sat_ex, sat_thru, sat_thru_ct, sat_nxt, sat_t1, sat_t1c, sat_t1r, sat_t1e, Rs.bind_ok, Rs.bind_ex, Rs.out_ok, Rs.out_ex, List.set_cons_succ, List.set_cons_zero, List.getElem?_cons_succ, List.getElem?_cons_zero, List.map_cons, List.map_nil, List.cons_append, List.nil_append, startG, List.reduceReplicate, List.length_cons, List.length_nil, Nat.reduceAdd, Nat.reduceSub, Nat.zero_add, Nat.add_zero, Nat.zero_le, Nat.reduceLeDiff, List.append_nil, reduceCtorEq, if_true, if_false, ite_true, ite_false, ne_eq, not_false_eq_true, not_true_eq_false, decide_true, decide_false, decide_not, Bool.not_true, Bool.not_false, Bool.and_true, Bool.true_and, Bool.and_self, Bool.false_eq_true, and_self, and_true, true_and, decide_eq_true_eq, Int.reduceEq, Int.cast_ofNat_Int, Int.reduceNe, Int.reduceLT, Int.reduceLE, Int.reduceNeg, Int.reduceAdd, Int.reduceSub, tgSlots, freeAt, List.all_cons, List.all_nil, isNon_non, isNon_str, isNon_int, isNon_bl, isNon_tup, isNon_lst, isNon_opq, fin_nx, fin_rt, fin_ex, e_xt, Bool.true_eq_false, eq_self, isc_non, isc_opq, x_xs, x_try, tryO_nx, tryO_rt, tryO_ex, hdG_as, hdG_cst, List.contains_cons, List.contains_nil, Nat.reduceBEq, beq_self_eq_true, up_nil, up_cons, tn_nx, tn_ct, tn_bk, tn_rt, tn_ex, b_fdiv, b_mod, max_two, min_two, ixl, ixt, ixl_last, ixl_zero, ixt_zero, ixs, ixs_last, ixT0, ixT1, ixT12, ixT22, ixL0, ixL1, ixM0, ixM1, ixM2, lenS, slS, rvS, catS, appL, unp2, unp3, r1, r2, r2one, e_comp2, it_nth, nat1, nat1l, natA, natM, natD, natR, natS, natS1, natE, natL, natLe, natL0, natN0, nat0, max_nats, Bool.not_eq_true', Bool.not_eq_false', List.length_map, List.length_append, List.length_range, Bool.true_or, Bool.false_or, Bool.or_true, Bool.or_false, Bool.and_false, Bool.false_and, Bool.or_self, decide_eq_false_iff_not, Nat.lt_irrefl, Bool.not_eq_eq_eq_not, not_true, not_false_iff, Nat.not_lt_zero, $xs,*])
/- 69 _law_same(_law_found, _law_due); slots: 0=_law_found 1=_law_due 2=_law_k; calls: itself  -/
def i_law_same : IS := (.seq (.if_ (.or_ (.bi .isTup (.cons (.v 1) .nil)) (.bi .isLst (.cons (.v 1) .nil))) (.seq (.if_ (.or_ (.cmp .ne (.bi .isTup (.cons (.v 0) .nil)) (.bi .isTup (.cons (.v 1) .nil))) (.cmp .ne (.bi .isLst (.cons (.v 0) .nil)) (.bi .isLst (.cons (.v 1) .nil)))) (.seq (.ret (.k (.bl false))) .nil) .nil) (.seq (.if_ (.cmp .ne (.bi .len (.cons (.v 0) .nil)) (.bi .len (.cons (.v 1) .nil))) (.seq (.ret (.k (.bl false))) .nil) .nil) (.seq (.for_ (.one 2) (.rng1 (.bi .len (.cons (.v 1) .nil))) (.seq (.if_ (.not_ (.call 69 (.cons (.ix (.v 0) (.v 2)) (.cons (.ix (.v 1) (.v 2)) .nil)))) (.seq (.ret (.k (.bl false))) .nil) .nil) .nil)) (.seq (.ret (.k (.bl true))) .nil)))) .nil) (.seq (.if_ (.bi .isBool (.cons (.v 1) .nil)) (.seq (.ret (.and_ (.bi .isBool (.cons (.v 0) .nil)) (.cmp .eq (.v 0) (.v 1)))) .nil) .nil) (.seq (.if_ (.bi .isInt (.cons (.v 1) .nil)) (.seq (.ret (.and_ (.bi .isInt (.cons (.v 0) .nil)) (.and_ (.not_ (.bi .isBool (.cons (.v 0) .nil))) (.cmp .eq (.v 0) (.v 1))))) .nil) .nil) (.seq (.if_ (.bi .isStr (.cons (.v 1) .nil)) (.seq (.ret (.and_ (.bi .isStr (.cons (.v 0) .nil)) (.cmp .eq (.v 0) (.v 1)))) .nil) .nil) (.seq (.ret (.and_ (.cmp .isn (.v 1) (.k .non)) (.cmp .isn (.v 0) (.k .non)))) .nil)))))
def f_law_same (r : List RA.D → Rs (Bool × RA.D)) : FT := fun n ds => match n, ds with | 69, ds => r ds  | _, _ => .no
@[simp] theorem f_law_same_69 (r : List RA.D → Rs (Bool × RA.D)) (ds : List RA.D) : f_law_same r 69 ds = r ds := (rfl)
def r_law_same : Nat → List RA.D → Rs (Bool × RA.D)
  | 0 => fun _ => .no
  | k + 1 => mk 2 3 (f_law_same (r_law_same k)) i_law_same
def m_law_same : List RA.D → Rs (Bool × RA.D) := r_law_same 8
mutual
/-- the same data, kinds and all -/
def sameD : RA.D → RA.D → Bool
  | .tup as, .tup bs => sameL as bs
  | .lst as, .lst bs => sameL as bs
  | .bl a, .bl b => decide (a = b)
  | .int a, .int b => decide (a = b)
  | .str a, .str b => decide (a = b)
  | .non, .non => true
  | _, _ => false
def sameL : List RA.D → List RA.D → Bool
  | [], [] => true
  | a :: as, b :: bs => sameD a b && sameL as bs
  | _, _ => false
end
mutual
def depD : RA.D → Nat
  | .tup as => depL as + 1
  | .lst as => depL as + 1
  | _ => 0
def depL : List RA.D → Nat
  | [] => 0
  | a :: as => max (depD a) (depL as)
end
mutual
/-- no dict, no own kind, no list of great length -/
def plainD : RA.D → Bool
  | .tup as => plainL as && decide (as.length ≤ 1000000000)
  | .lst as => plainL as && decide (as.length ≤ 1000000000)
  | .dct _ => false
  | .opq _ _ => false
  | _ => true
def plainL : List RA.D → Bool
  | [] => true
  | a :: as => plainD a && plainL as
end
theorem sameL_len : ∀ {as bs : List RA.D}, sameL as bs = true → as.length = bs.length
  | [], [], _ => rfl
  | [], _ :: _, h => by simp [sameL] at h
  | _ :: _, [], h => by simp [sameL] at h
  | a :: as, b :: bs, h => by
    simp only [sameL, Bool.and_eq_true] at h
    rw [List.length_cons, List.length_cons, sameL_len h.2]
theorem sameL_at : ∀ {as bs : List RA.D} {i : Nat} {a b : RA.D}, sameL as bs = true → as[i]? = some a → bs[i]? = some b → sameD a b = true
  | [], _, _, _, _, _, e, _ => by simp at e
  | _ :: _, [], _, _, _, h, _, _ => by simp [sameL] at h
  | a :: as, b :: bs, 0, _, _, h, e1, e2 => by
    simp only [sameL, Bool.and_eq_true] at h
    cases e1; cases e2; exact h.1
  | a :: as, b :: bs, i + 1, _, _, h, e1, e2 => by
    simp only [sameL, Bool.and_eq_true] at h
    exact sameL_at h.2 (by simpa using e1) (by simpa using e2)
theorem sameL_of : ∀ {as bs : List RA.D}, as.length = bs.length → (∀ (i : Nat) (a b : RA.D), as[i]? = some a → bs[i]? = some b → sameD a b = true) → sameL as bs = true
  | [], [], _, _ => rfl
  | [], _ :: _, h, _ => by simp at h
  | _ :: _, [], h, _ => by simp at h
  | a :: as, b :: bs, h, k => by
    simp only [sameL, Bool.and_eq_true]
    exact ⟨k 0 a b rfl rfl, sameL_of (by simpa using h) fun i x y e1 e2 => k (i + 1) x y (by simpa using e1) (by simpa using e2)⟩
theorem plainL_at : ∀ {as : List RA.D} {i : Nat} {a : RA.D}, plainL as = true → as[i]? = some a → plainD a = true
  | [], _, _, _, e => by simp at e
  | a :: as, 0, _, h, e => by
    simp only [plainL, Bool.and_eq_true] at h
    cases e; exact h.1
  | a :: as, i + 1, _, h, e => by
    simp only [plainL, Bool.and_eq_true] at h
    exact plainL_at h.2 (by simpa using e)
theorem depL_at : ∀ {as : List RA.D} {i : Nat} {a : RA.D}, as[i]? = some a → depD a ≤ depL as
  | [], _, _, e => by simp at e
  | a :: as, 0, _, e => by cases e; exact Nat.le_max_left _ _
  | a :: as, i + 1, _, e => Nat.le_trans (depL_at (as := as) (i := i) (by simpa using e)) (Nat.le_max_right _ _)
/-- whether a loop over the parts comes to its end -/
theorem same_loop {k : Nat} {as bs : List RA.D} {G : Ev} (mkd : List RA.D → RA.D) (hmk : mkd = RA.D.tup ∨ mkd = RA.D.lst) (ih : ∀ (a b : RA.D), depD b < k → plainD a = true → plainD b = true → r_law_same k [a, b] = .ok (false, .bl (sameD a b)))
    (hd : depL bs < k) (pa : plainL as = true) (pb : plainL bs = true) (hb : bs.length ≤ 1000000000) (hl : as.length = bs.length) (t : Option (Bool × RA.D)) :
    Sat (seqO (loopF (.one 2) (exec (f_law_same (r_law_same k)) FUEL (.seq (.if_ (.not_ (.call 69 (.cons (.ix (.v 0) (.v 2)) (.cons (.ix (.v 1) (.v 2)) .nil)))) (.seq (.ret (.k (.bl false))) .nil) .nil) .nil)) (rangeD 0 (bs.length : Nat)) [some (false, mkd as), some (false, mkd bs), t]) (exec (f_law_same (r_law_same k)) FUEL (.seq (.ret (.k (.bl true))) .nil)))
      fun o => fin o = .ok (false, .bl (sameL as bs)) := by
  refine for_rng (fun G0 i G => ∃ t, G = up G0 [(2, t)] ∧ ∀ j < i, ∀ a b, as[j]? = some a → bs[j]? = some b → sameD a b = true) ⟨t, rfl, fun j h => absurd h (Nat.not_lt_zero _)⟩ ?_ ?_
  · rintro i G hi ⟨t, rfl, hs⟩
    refine ⟨_, rfl, ?_⟩
    have ga : as[i]? = some as[i] := List.getElem?_eq_getElem (by omega)
    have gb : bs[i]? = some bs[i] := List.getElem?_eq_getElem hi
    generalize as[i] = a at ga
    generalize bs[i] = b at gb
    have h1 := ih a b (Nat.lt_of_le_of_lt (depL_at gb) hd) (plainL_at pa ga) (plainL_at pb gb)
    have ea : ixD (mkd as) (.int (i : Nat)) = .ok a := by
      rcases hmk with rfl | rfl
      · exact ix_tup (geta ga)
      · exact ix_lst (geta ga)
    have eb : ixD (mkd bs) (.int (i : Nat)) = .ok b := by
      rcases hmk with rfl | rfl
      · exact ix_tup (geta gb)
      · exact ix_lst (geta gb)
    dsimp! [ea, eb, f_law_same_69, h1]
    cases q : sameD a b with
    | true =>
      dsimp! [up_nil]
      refine ⟨_, rfl, fun j hj x y e1 e2 => ?_⟩
      by_cases z : j < i
      · exact hs j z x y e1 e2
      · have : j = i := by omega
        subst this
        rw [ga] at e1
        rw [gb] at e2
        cases e1; cases e2; exact q
    | false =>
      dsimp! [up_nil]
      have : sameL as bs = false := Bool.eq_false_iff.mpr fun z => by rw [sameL_at z ga gb] at q; cases q
      rw [this]
  · rintro G ⟨t, rfl, hs⟩
    dsimp! [up_nil]
    rw [sameL_of hl fun i a b e1 e2 => hs i (by have := (List.getElem?_eq_some_iff.mp e2).1; omega) a b e1 e2]
theorem same_ok : ∀ (k : Nat) (a b : RA.D), depD b < k → plainD a = true → plainD b = true → r_law_same k [a, b] = .ok (false, .bl (sameD a b)) := by
  intro k
  induction k with
  | zero => intro a b h; exact absurd h (Nat.not_lt_zero _)
  | succ k ih =>
    intro a b hd pa pb
    refine mk_of rfl ?_
    unfold i_law_same
    have iT : ∀ x, plainD x = true → biD .isTup [x] = .ok (.val, .bl (match x with | .tup _ => true | _ => false)) := fun x h => by cases x <;> first | rfl | cases h
    have iL : ∀ x, plainD x = true → biD .isLst [x] = .ok (.val, .bl (match x with | .lst _ => true | _ => false)) := fun x h => by cases x <;> first | rfl | cases h
    have iB : ∀ x, plainD x = true → biD .isBool [x] = .ok (.val, .bl (match x with | .bl _ => true | _ => false)) := fun x h => by cases x <;> first | rfl | cases h
    have iI : ∀ x, plainD x = true → biD .isInt [x] = .ok (.val, .bl (match x with | .bl _ => true | .int _ => true | _ => false)) := fun x h => by cases x <;> first | rfl | cases h
    have iS : ∀ x, plainD x = true → biD .isStr [x] = .ok (.val, .bl (match x with | .str _ => true | _ => false)) := fun x h => by cases x <;> first | rfl | cases h
    have ta := iT a pa; have tb := iT b pb
    have la := iL a pa; have lb := iL b pb
    have ba := iB a pa; have bb := iB b pb
    have na := iI a pa; have nb := iI b pb
    have sa := iS a pa; have sb := iS b pb
    cases b with
    | dct _ => cases pb
    | opq _ _ => cases pb
    | tup bs =>
      cases a with
      | dct _ => cases pa
      | opq _ _ => cases pa
      | tup as =>
        simp only [plainD, Bool.and_eq_true, decide_eq_true_eq] at pa pb
        by_cases q : as.length = bs.length
        · dsimp! [ta, tb, la, lb, q]
          exact same_loop (G := []) _ (.inl rfl) ih (by simp only [depD] at hd; omega) pa.1 pb.1 pb.2 q _
        · dsimp! [ta, tb, la, lb, q]
          have : sameD (.tup as) (.tup bs) = false := Bool.eq_false_iff.mpr fun z => q (sameL_len z)
          rw [this]
      | _ => dsimp! [ta, tb, la, lb]; rfl
    | lst bs =>
      cases a with
      | dct _ => cases pa
      | opq _ _ => cases pa
      | lst as =>
        simp only [plainD, Bool.and_eq_true, decide_eq_true_eq] at pa pb
        by_cases q : as.length = bs.length
        · dsimp! [ta, tb, la, lb, q]
          exact same_loop (G := []) _ (.inr rfl) ih (by simp only [depD] at hd; omega) pa.1 pb.1 pb.2 q _
        · dsimp! [ta, tb, la, lb, q]
          have : sameD (.lst as) (.lst bs) = false := Bool.eq_false_iff.mpr fun z => q (sameL_len z)
          rw [this]
      | _ => dsimp! [ta, tb, la, lb]; rfl
    | bl b =>
      cases a with
      | dct _ => cases pa
      | opq _ _ => cases pa
      | _ => dsimp! [tb, lb, bb, ba]; rfl
    | int b =>
      cases a with
      | dct _ => cases pa
      | opq _ _ => cases pa
      | _ => dsimp! [tb, lb, bb, nb, ba, na]; rfl
    | str b =>
      cases a with
      | dct _ => cases pa
      | opq _ _ => cases pa
      | _ => dsimp! [tb, lb, bb, nb, sb, sa]; rfl
    | non =>
      cases a with
      | dct _ => cases pa
      | opq _ _ => cases pa
      | _ => dsimp! [tb, lb, bb, nb, sb, isNon]; rfl
end RA
/-! W12: words with a sign that is no letter; acts. -/
namespace RA
open PySem PySem.Spec PyProof.Rows L2
/- 169 act_of(machine, word); slots: 0=machine 1=word 2=room; calls: 11=check_word 24=led -/
def f_act_of : FT := fun n ds => match n, ds with | 11, ds => m_check_word ds | 24, ds => m_led ds | _, _ => .no
@[simp] theorem f_act_of_11 (ds : List RA.D) : f_act_of 11 ds = m_check_word ds := (rfl)
@[simp] theorem f_act_of_24 (ds : List RA.D) : f_act_of 24 ds = m_led ds := (rfl)
/- 62 _law_foreign(_law_cell); slots: 0=_law_cell 1=_law_some; calls:  -/
def i_law_foreign : IS := (.seq (.set 1 (.k (.str [32, 33, 34, 35, 36, 38, 39, 40, 41, 42, 43, 44, 45, 46, 47, 48, 49, 50, 51, 52, 53, 54, 55, 56, 57, 58, 59, 60, 61, 62, 63, 64, 65, 66, 67, 68, 69, 70, 71, 72, 73, 74, 75, 76, 77, 78, 79, 80, 81, 82, 83, 84, 85, 86, 87, 88, 89, 90, 91, 92, 93, 94, 95, 96, 123, 124, 125, 126]))) (.seq (.ret (.ix (.v 1) (.b .mod (.v 0) (.bi .len (.cons (.v 1) .nil))))) .nil))
def f_law_foreign : FT := fun _ _ => .no
def m_law_foreign : List RA.D → Rs (Bool × RA.D) := mk 1 2 f_law_foreign i_law_foreign
/- 61 _law_others(_law_letters_here); slots: 0=_law_letters_here 1=_law_sign; calls:  -/
def i_law_others : IS := (.seq (.ret (.me .join (.k (.str [])) (.cons (.comp (.one 1) (.ex (.k (.str [97, 98, 99, 100, 101, 102, 103, 104, 105, 106, 107, 108, 109, 110, 111, 112, 113, 114, 115, 116, 117, 118, 119, 120, 121, 122]))) (.cmp .nmem (.v 1) (.v 0)) (.v 1)) .nil))) .nil)
def f_law_others : FT := fun _ _ => .no
def m_law_others : List RA.D → Rs (Bool × RA.D) := mk 1 2 f_law_others i_law_others
/- 75 _law_no_word(_law_letters_here, _law_word_here, _law_script, _law_k); slots: 0=_law_letters_here 1=_law_word_here 2=_law_script 3=_law_k 4=_law_at 5=_law_cell 6=_law_sign 7=_law_others_here; calls: 6=law_cell_at 62=law_foreign 61=law_others -/
def f_law_no_word : FT := fun n ds => match n, ds with | 6, ds => m_law_cell_at ds | 62, ds => m_law_foreign ds | 61, ds => m_law_others ds | _, _ => .no
@[simp] theorem f_law_no_word_6 (ds : List RA.D) : f_law_no_word 6 ds = m_law_cell_at ds := (rfl)
@[simp] theorem f_law_no_word_62 (ds : List RA.D) : f_law_no_word 62 ds = m_law_foreign ds := (rfl)
@[simp] theorem f_law_no_word_61 (ds : List RA.D) : f_law_no_word 61 ds = m_law_others ds := (rfl)
/- 171 _law_act(_law_machine_here, _law_word_here); slots: 0=_law_machine_here 1=_law_word_here 2=_law_room; calls: 27=law_after -/
def f_law_act : FT := fun n ds => match n, ds with | 27, ds => m_law_after ds | _, _ => .no
@[simp] theorem f_law_act_27 (ds : List RA.D) : f_law_act 27 ds = m_law_after ds := (rfl)
local macro_rules | `(tactic| dsimp! [$xs,*]) => `(tactic| simp (disch := first | assumption | omega | (simp only [List.length_map, List.length_append, List.length_cons, List.length_nil, List.length_range, List.length_set]; omega) | decide | rfl) only [tstO_eq, x_seq, x_set, x_own, x_do, x_if, x_for, x_whl, x_ret, x_retN, x_pass, x_brk, x_cnt, x_rse, x_fgt, x_frz, x_retp, x_app, x_aug, x_unp, x_put, e_v, e_pk, e_k, e_gl, e_b, e_neg, e_cmp, e_and, e_or, e_not, e_ife, e_tup, e_lst, e_dct, e_dct1, e_lset, e_ix, e_sl, e_rv, rv_lst, e_out, e_bi, e_me, e_call, es_nil, es_cons, i_ex, i_rng1, i_rng2, i_zip, i_rev, valO_ok, pkO_ok, glO_ok, negO_ok, frzO_ok, retO_ok, augO_add, augO_sub, walkO_lst, walkO_tup, walkO_str, zipO_ok, zipI_ok, revO_ok, asB_ok, items_lst, items_tup, items_str, bindT_one, bindT_tup, setAll_nil, setAll_cons, forget_nil, forget_cons, prt_int, prt_out, isOut, keepOk_nil, keepOk_cons, recv_str, b_add, b_sub, c_lt, c_le, c_gt, c_ge, c_ltS, c_gtS, c_eqI, c_neI, c_eqS, c_neS, c_eqB, c_neB, c_isn, c_isnt, c_memS, c_nmemS, sl_lst, len_lst, len_tup, is_str, is_intI, is_boolI, is_boolB, tuple_lst, list_lst, list_tup, find_one, seqO_nx, seqO_no, seqO_rt, seqO_ex, seqO_bk, seqO_ct, seqO_seqO, seqO_ite, x_nil, sat_nx, sat_rt, sat_ex, sat_thru, sat_thru_ct, sat_nxt, sat_t1, sat_t1c, sat_t1r, sat_t1e, Rs.bind_ok, Rs.bind_ex, Rs.out_ok, Rs.out_ex, List.set_cons_succ, List.set_cons_zero, List.getElem?_cons_succ, List.getElem?_cons_zero, List.map_cons, List.map_nil, List.cons_append, List.nil_append, startG, List.reduceReplicate, List.length_cons, List.length_nil, Nat.reduceAdd, Nat.reduceSub, Nat.zero_add, Nat.add_zero, Nat.zero_le, Nat.reduceLeDiff, List.append_nil, reduceCtorEq, if_true, if_false, ite_true, ite_false, ne_eq, not_false_eq_true, not_true_eq_false, decide_true, decide_false, decide_not, Bool.not_true, Bool.not_false, Bool.and_true, Bool.true_and, Bool.and_self, Bool.false_eq_true, and_self, and_true, true_and, decide_eq_true_eq, Int.reduceEq, Int.cast_ofNat_Int, Int.reduceNe, Int.reduceLT, Int.reduceLE, Int.reduceNeg, Int.reduceAdd, Int.reduceSub, tgSlots, freeAt, List.all_cons, List.all_nil, isNon_non, isNon_str, isNon_int, isNon_bl, isNon_tup, isNon_lst, isNon_opq, fin_nx, fin_rt, fin_ex, e_xt, Bool.true_eq_false, eq_self, isc_non, isc_opq, x_xs, x_try, tryO_nx, tryO_rt, tryO_ex, hdG_as, hdG_cst, List.contains_cons, List.contains_nil, Nat.reduceBEq, beq_self_eq_true, up_nil, up_cons, tn_nx, tn_ct, tn_bk, tn_rt, tn_ex, b_fdiv, b_mod, max_two, min_two, ixl, ixt, ixl_last, ixl_zero, ixt_zero, ixs, ixs_last, ixT0, ixT1, ixT12, ixT22, ixL0, ixL1, ixM0, ixM1, ixM2, lenS, slS, rvS, catS, appL, unp2, unp3, r1, r2, r2one, e_comp2, it_nth, nat1, nat1l, natA, natM, natD, natR, natS, natS1, natE, natL, natLe, natL0, natN0, nat0, max_nats, Bool.not_eq_true', Bool.not_eq_false', List.length_map, List.length_append, List.length_range, Bool.true_or, Bool.false_or, Bool.or_true, Bool.or_false, Bool.and_false, Bool.false_and, Bool.or_self, decide_eq_false_iff_not, Nat.lt_irrefl, Bool.not_eq_eq_eq_not, not_true, not_false_iff, Nat.not_lt_zero, f_act_of_11, f_act_of_24, f_law_no_word_6, f_law_no_word_62, f_law_no_word_61, f_law_act_27, $xs,*])
end RA
/-! W13: the next word; what is refused. -/
namespace RA
open PySem PySem.Spec PyProof.Rows L2
/- 19 next_word(letters, word); slots: 0=letters 1=word 2=at 3=raised; calls: 9=check_letters 11=check_word -/
def f_next_word : FT := fun n ds => match n, ds with | 9, ds => m_check_letters ds | 11, ds => m_check_word ds | _, _ => .no
@[simp] theorem f_next_word_9 (ds : List RA.D) : f_next_word 9 ds = m_check_letters ds := (rfl)
@[simp] theorem f_next_word_11 (ds : List RA.D) : f_next_word 11 ds = m_check_word ds := (rfl)
local macro_rules | `(tactic| dsimp! [$xs,*]) => `(tactic| simp (disch := first | assumption | omega | (simp only [List.length_map, List.length_append, List.length_cons, List.length_nil, List.length_range, List.length_set]; omega) | decide | rfl) only [tstO_eq, x_seq, x_set, x_own, x_do, x_if, x_for, x_whl, x_ret, x_retN, x_pass, x_brk, x_cnt, x_rse, x_fgt, x_frz, x_retp, x_app, x_aug, x_unp, x_put, e_v, e_pk, e_k, e_gl, e_b, e_neg, e_cmp, e_and, e_or, e_not, e_ife, e_tup, e_lst, e_dct, e_dct1, e_lset, e_ix, e_sl, e_rv, rv_lst, e_out, e_bi, e_me, e_call, es_nil, es_cons, i_ex, i_rng1, i_rng2, i_zip, i_rev, valO_ok, pkO_ok, glO_ok, negO_ok, frzO_ok, retO_ok, augO_add, augO_sub, walkO_lst, walkO_tup, walkO_str, zipO_ok, zipI_ok, revO_ok, asB_ok, items_lst, items_tup, items_str, bindT_one, bindT_tup, setAll_nil, setAll_cons, forget_nil, forget_cons, prt_int, prt_out, isOut, keepOk_nil, keepOk_cons, recv_str, b_add, b_sub, c_lt, c_le, c_gt, c_ge, c_ltS, c_gtS, c_eqI, c_neI, c_eqS, c_neS, c_eqB, c_neB, c_isn, c_isnt, c_memS, c_nmemS, sl_lst, len_lst, len_tup, is_str, is_intI, is_boolI, is_boolB, tuple_lst, list_lst, list_tup, find_one, seqO_nx, seqO_no, seqO_rt, seqO_ex, seqO_bk, seqO_ct, seqO_seqO, seqO_ite, x_nil, sat_nx, sat_rt, sat_ex, sat_thru, sat_thru_ct, sat_nxt, sat_t1, sat_t1c, sat_t1r, sat_t1e, Rs.bind_ok, Rs.bind_ex, Rs.out_ok, Rs.out_ex, List.set_cons_succ, List.set_cons_zero, List.getElem?_cons_succ, List.getElem?_cons_zero, List.map_cons, List.map_nil, List.cons_append, List.nil_append, startG, List.reduceReplicate, List.length_cons, List.length_nil, Nat.reduceAdd, Nat.reduceSub, Nat.zero_add, Nat.add_zero, Nat.zero_le, Nat.reduceLeDiff, List.append_nil, reduceCtorEq, if_true, if_false, ite_true, ite_false, ne_eq, not_false_eq_true, not_true_eq_false, decide_true, decide_false, decide_not, Bool.not_true, Bool.not_false, Bool.and_true, Bool.true_and, Bool.and_self, Bool.false_eq_true, and_self, and_true, true_and, decide_eq_true_eq, Int.reduceEq, Int.cast_ofNat_Int, Int.reduceNe, Int.reduceLT, Int.reduceLE, Int.reduceNeg, Int.reduceAdd, Int.reduceSub, tgSlots, freeAt, List.all_cons, List.all_nil, isNon_non, isNon_str, isNon_int, isNon_bl, isNon_tup, isNon_lst, isNon_opq, fin_nx, fin_rt, fin_ex, e_xt, Bool.true_eq_false, eq_self, isc_non, isc_opq, x_xs, x_try, tryO_nx, tryO_rt, tryO_ex, hdG_as, hdG_cst, List.contains_cons, List.contains_nil, Nat.reduceBEq, beq_self_eq_true, up_nil, up_cons, tn_nx, tn_ct, tn_bk, tn_rt, tn_ex, b_fdiv, b_mod, max_two, min_two, ixl, ixt, ixl_last, ixl_zero, ixt_zero, ixs, ixs_last, ixT0, ixT1, ixT12, ixT22, ixL0, ixL1, ixM0, ixM1, ixM2, lenS, slS, rvS, catS, appL, unp2, unp3, r1, r2, r2one, e_comp2, it_nth, nat1, nat1l, natA, natM, natD, natR, natS, natS1, natE, natL, natLe, natL0, natN0, nat0, max_nats, Bool.not_eq_true', Bool.not_eq_false', List.length_map, List.length_append, List.length_range, Bool.true_or, Bool.false_or, Bool.or_true, Bool.or_false, Bool.and_false, Bool.false_and, Bool.or_self, decide_eq_false_iff_not, Nat.lt_irrefl, Bool.not_eq_eq_eq_not, not_true, not_false_iff, Nat.not_lt_zero, f_next_word_9, f_next_word_11, f_earlier_9, f_earlier_11, f_number_of_9, f_number_of_11, f_word_of_9, f_word_of_0, f_room_after_11, f_room_after_24, f_takes_11, f_takes_24, $xs,*])
end RA
/-! W14: machines as data: the same, equal. -/
namespace RA
open PySem PySem.Spec PyProof.Rows L2
mutual
theorem sameD_refl : ∀ a : RA.D, plainD a = true → sameD a a = true
  | .tup as, h => by
    simp only [plainD, Bool.and_eq_true] at h
    exact sameL_refl as h.1
  | .lst as, h => by
    simp only [plainD, Bool.and_eq_true] at h
    exact sameL_refl as h.1
  | .non, _ => rfl
  | .bl b, _ => by simp [sameD]
  | .int b, _ => by simp [sameD]
  | .str b, _ => by simp [sameD]
  | .dct _, h => by simp [plainD] at h
  | .opq _ _, h => by simp [plainD] at h
theorem sameL_refl : ∀ as : List RA.D, plainL as = true → sameL as as = true
  | [], _ => rfl
  | a :: as, h => by
    simp only [plainL, Bool.and_eq_true] at h
    simp only [sameL, Bool.and_eq_true]
    exact ⟨sameD_refl a h.1, sameL_refl as h.2⟩
end
theorem plainL_of : ∀ {l : List RA.D}, (∀ a ∈ l, plainD a = true) → plainL l = true
  | [], _ => rfl
  | a :: l, h => by
    simp only [plainL, Bool.and_eq_true]
    exact ⟨h a List.mem_cons_self, plainL_of fun b hb => h b (List.mem_cons_of_mem _ hb)⟩
theorem depL_of {d : Nat} : ∀ {l : List RA.D}, (∀ a ∈ l, depD a ≤ d) → depL l ≤ d
  | [], _ => Nat.zero_le _
  | a :: l, h => Nat.max_le.mpr ⟨h a List.mem_cons_self, depL_of fun b hb => h b (List.mem_cons_of_mem _ hb)⟩
/-! ### == -/
section
variable {α : Type} [DecidableEq α] {f : α → RA.D}
theorem eqv_map (h : ∀ a b, PyData.eqv (toP (f a)) (toP (f b)) = decide (a = b)) : ∀ {l l' : List α}, PyData.eqvAll (toPs (l.map f)) (toPs (l'.map f)) = decide (l = l')
  | [], [] => by simp [toPs, PyData.eqvAll]
  | [], _ :: _ => by simp [toPs, PyData.eqvAll]
  | _ :: _, [] => by simp [toPs, PyData.eqvAll]
  | a :: l, b :: l' => by
    rw [List.map_cons, List.map_cons]
    unfold toPs PyData.eqvAll
    rw [h a b, eqv_map h]
    rw [Bool.eq_iff_iff]; simp
theorem lay_map (h : ∀ a, PyData.canLay0 (toP (f a)) = true) : ∀ {l : List α}, PyData.canLayAll0 (toPs (l.map f)) = true
  | [] => by simp [toPs, PyData.canLayAll0]
  | a :: l => by
    rw [List.map_cons]
    unfold toPs PyData.canLayAll0
    rw [h a, lay_map h]; rfl
theorem dep_map {d : Nat} (h : ∀ a, PyData.depth (toP (f a)) ≤ d) : ∀ {l : List α}, PyData.depthAll (toPs (l.map f)) ≤ d
  | [] => by simp [toPs, PyData.depthAll]
  | a :: l => by
    rw [List.map_cons]
    unfold toPs PyData.depthAll
    exact Nat.max_le.mpr ⟨h a, dep_map h⟩
end
theorem eqv_NI (a b : Nat) : PyData.eqv (toP ((fun (n : Nat) => RA.D.int n) a)) (toP ((fun (n : Nat) => RA.D.int n) b)) = decide (a = b) := by
  simp only [toP, PyData.eqv]
  rw [Bool.eq_iff_iff, beq_iff_eq, decide_eq_true_eq]
  exact Int.ofNat_inj
theorem eqv_ROW (a b : List Nat) : PyData.eqv (toP ((fun r : List Nat => RA.D.tup (r.map (fun (n : Nat) => RA.D.int n))) a)) (toP ((fun r : List Nat => RA.D.tup (r.map (fun (n : Nat) => RA.D.int n))) b)) = decide (a = b) := by
  simp only [toP, PyData.eqv]
  exact eqv_map eqv_NI
theorem lay_ROW (a : List Nat) : PyData.canLay0 (toP ((fun r : List Nat => RA.D.tup (r.map (fun (n : Nat) => RA.D.int n))) a)) = true ∧ PyData.depth (toP ((fun r : List Nat => RA.D.tup (r.map (fun (n : Nat) => RA.D.int n))) a)) ≤ 2 := by
  constructor
  · simp only [toP, PyData.canLay0]
    exact lay_map fun a => by simp [toP, PyData.canLay0]
  · have := dep_map (f := (fun (n : Nat) => RA.D.int n)) (d := 1) (fun a => by simp [toP, PyData.depth]) (l := a)
    simp only [toP, PyData.depth]
    omega
end RA
/-! W15: the machines of the laws of acts. -/
namespace RA
open PySem PySem.Spec PyProof.Rows L2
/- 180 _law_turns(_law_script, _law_letters_here); slots: 0=_law_script 1=_law_letters_here 2=_law_rooms 3=_law_ways 4=_law_room 5=_law_row 6=_law_k 7=_law_back; calls: 6=law_cell_at -/
def i_law_turns : IS := (.seq (.set 2 (.b .add (.k (.int 1)) (.b .mod (.call 6 (.cons (.v 0) (.cons (.k (.int 2)) .nil))) (.k (.int 8))))) (.seq (.own 3 (.lst .nil)) (.seq (.for_ (.one 4) (.rng1 (.v 2)) (.seq (.own 5 (.lst .nil)) (.seq (.for_ (.one 6) (.rng1 (.bi .len (.cons (.v 1) .nil))) (.seq (.set 7 (.b .sub (.k (.int 1)) (.b .mul (.k (.int 2)) (.b .mod (.call 6 (.cons (.v 0) (.cons (.b .add (.k (.int 5)) (.b .mul (.k (.int 2)) (.v 6))) .nil))) (.k (.int 2)))))) (.seq (.app 5 (.b .mod (.b .add (.b .mul (.v 7) (.v 4)) (.call 6 (.cons (.v 0) (.cons (.b .add (.k (.int 4)) (.b .mul (.k (.int 2)) (.v 6))) .nil)))) (.v 2))) .nil))) (.seq (.app 3 (.bi .tuple (.cons (.pk 5) .nil))) (.seq (.fgt [5]) .nil))))) (.seq (.ret (.tup (.cons (.v 1) (.cons (.bi .tuple (.cons (.pk 3) .nil)) (.cons (.bi .tuple (.cons (.comp (.one 4) (.rng1 (.v 2)) (.k (.bl true)) (.cmp .eq (.b .mod (.v 4) (.k (.int 2))) (.k (.int 0)))) .nil)) .nil))))) .nil))))
def f_law_turns : FT := fun n ds => match n, ds with | 6, ds => m_law_cell_at ds | _, _ => .no
@[simp] theorem f_law_turns_6 (ds : List RA.D) : f_law_turns 6 ds = m_law_cell_at ds := (rfl)
def m_law_turns : List RA.D → Rs (Bool × RA.D) := mk 2 8 f_law_turns i_law_turns
/- 181 _law_order(_law_cell, _law_many); slots: 0=_law_cell 1=_law_many 2=_law_found 3=_law_number 4=_law_k; calls:  -/
def i_law_order : IS := (.seq (.own 2 (.lst .nil)) (.seq (.set 3 (.b .mod (.v 0) (.k (.int 2147483647)))) (.seq (.for_ (.one 4) (.rng1 (.v 1)) (.seq (.set 3 (.b .mod (.b .add (.b .add (.b .mul (.v 3) (.v 3)) (.b .mul (.k (.int 69621)) (.v 3))) (.v 4)) (.k (.int 2147483629)))) (.seq (.ins 2 (.b .mod (.v 3) (.b .add (.v 4) (.k (.int 1)))) (.v 4)) .nil))) (.seq (.retp 2) .nil))))
def f_law_order : FT := fun _ _ => .no
def m_law_order : List RA.D → Rs (Bool × RA.D) := mk 2 5 f_law_order i_law_order
/- 182 _law_third(_law_kind, _law_room); slots: 0=_law_kind 1=_law_room; calls:  -/
def i_law_third : IS := (.seq (.if_ (.cmp .eq (.v 0) (.k (.int 0))) (.seq (.ret (.v 1)) .nil) .nil) (.seq (.if_ (.or_ (.cmp .eq (.v 0) (.k (.int 1))) (.cmp .eq (.v 0) (.k (.int 2)))) (.seq (.ret (.k (.int 7))) .nil) .nil) (.seq (.ret (.ix (.lst (.cons (.k (.int 1)) (.cons (.k (.int 0)) (.cons (.k (.int 2)) (.cons (.k (.int 3)) (.cons (.k (.int 4)) (.cons (.k (.int 5)) (.cons (.k (.int 6)) (.cons (.k (.int 7)) .nil))))))))) (.v 1))) .nil)))
def f_law_third : FT := fun _ _ => .no
def m_law_third : List RA.D → Rs (Bool × RA.D) := mk 2 2 f_law_third i_law_third
/- 183 _law_forty(_law_script, _law_letters_here); slots: 0=_law_script 1=_law_letters_here 2=_law_kind 3=_law_rooms 4=_law_order_here 5=_law_turn 6=_law_ways 7=_law_room 8=_law_goals 9=_law_row 10=_law_k; calls: 181=law_order 6=law_cell_at 182=law_third -/
def i_law_forty : IS := (.seq (.set 2 (.b .mod (.call 6 (.cons (.v 0) (.cons (.k (.int 2)) .nil))) (.k (.int 4)))) (.seq (.set 3 (.b .add (.k (.int 7)) (.bi .int (.cons (.or_ (.cmp .eq (.v 2) (.k (.int 1))) (.cmp .eq (.v 2) (.k (.int 2)))) .nil)))) (.seq (.set 4 (.call 181 (.cons (.call 6 (.cons (.v 0) (.cons (.k (.int 4)) .nil))) (.cons (.v 3) .nil)))) (.seq (.set 5 (.call 6 (.cons (.v 0) (.cons (.k (.int 5)) .nil)))) (.seq (.own 6 (.lst .nil)) (.seq (.for_ (.one 7) (.ex (.v 4)) (.seq (.set 8 (.lst (.cons (.ix (.lst (.cons (.k (.int 1)) (.cons (.k (.int 2)) (.cons (.k (.int 3)) (.cons (.k (.int 4)) (.cons (.k (.int 0)) (.cons (.k (.int 6)) (.cons (.k (.int 5)) (.cons (.k (.int 7)) .nil))))))))) (.v 7)) (.cons (.ix (.lst (.cons (.k (.int 0)) (.cons (.k (.int 2)) (.cons (.k (.int 4)) (.cons (.k (.int 1)) (.cons (.k (.int 3)) (.cons (.k (.int 5)) (.cons (.k (.int 6)) (.cons (.k (.int 7)) .nil))))))))) (.v 7)) (.cons (.call 182 (.cons (.v 2) (.cons (.v 7) .nil))) .nil))))) (.seq (.own 9 (.lst .nil)) (.seq (.for_ (.one 10) (.rng1 (.bi .len (.cons (.v 1) .nil))) (.seq (.app 9 (.lix (.v 4) (.ix (.v 8) (.b .mod (.b .add (.v 5) (.v 10)) (.bi .len (.cons (.v 1) .nil)))))) .nil)) (.seq (.app 6 (.bi .tuple (.cons (.pk 9) .nil))) (.seq (.fgt [9]) .nil)))))) (.seq (.ret (.tup (.cons (.v 1) (.cons (.bi .tuple (.cons (.pk 6) .nil)) (.cons (.bi .tuple (.cons (.comp (.one 7) (.rng1 (.v 3)) (.k (.bl true)) (.cmp .eq (.b .mod (.v 7) (.k (.int 2))) (.k (.int 0)))) .nil)) .nil))))) .nil)))))))
def f_law_forty : FT := fun n ds => match n, ds with | 181, ds => m_law_order ds | 6, ds => m_law_cell_at ds | 182, ds => m_law_third ds | _, _ => .no
@[simp] theorem f_law_forty_181 (ds : List RA.D) : f_law_forty 181 ds = m_law_order ds := (rfl)
@[simp] theorem f_law_forty_6 (ds : List RA.D) : f_law_forty 6 ds = m_law_cell_at ds := (rfl)
@[simp] theorem f_law_forty_182 (ds : List RA.D) : f_law_forty 182 ds = m_law_third ds := (rfl)
def m_law_forty : List RA.D → Rs (Bool × RA.D) := mk 2 11 f_law_forty i_law_forty
/- 184 _law_acting(_law_script, _law_letters_here); slots: 0=_law_script 1=_law_letters_here 2=_law_kind 3=_law_size; calls: 6=law_cell_at 23=law_machine 180=law_turns 183=law_forty -/
def f_law_acting : FT := fun n ds => match n, ds with | 6, ds => m_law_cell_at ds | 23, ds => m_law_machine ds | 180, ds => m_law_turns ds | 183, ds => m_law_forty ds | _, _ => .no
@[simp] theorem f_law_acting_6 (ds : List RA.D) : f_law_acting 6 ds = m_law_cell_at ds := (rfl)
@[simp] theorem f_law_acting_23 (ds : List RA.D) : f_law_acting 23 ds = m_law_machine ds := (rfl)
@[simp] theorem f_law_acting_180 (ds : List RA.D) : f_law_acting 180 ds = m_law_turns ds := (rfl)
@[simp] theorem f_law_acting_183 (ds : List RA.D) : f_law_acting 183 ds = m_law_forty ds := (rfl)
local macro_rules | `(tactic| dsimp! [$xs,*]) => `(tactic| simp (disch := first | assumption | omega | (simp only [List.length_map, List.length_append, List.length_cons, List.length_nil, List.length_range, List.length_set]; omega) | decide | rfl) only [tstO_eq, x_seq, x_set, x_own, x_do, x_if, x_for, x_whl, x_ret, x_retN, x_pass, x_brk, x_cnt, x_rse, x_fgt, x_frz, x_retp, x_app, x_aug, x_unp, x_put, e_v, e_pk, e_k, e_gl, e_b, e_neg, e_cmp, e_and, e_or, e_not, e_ife, e_tup, e_lst, e_dct, e_dct1, e_lset, e_ix, e_sl, e_rv, rv_lst, e_out, e_bi, e_me, e_call, es_nil, es_cons, i_ex, i_rng1, i_rng2, i_zip, i_rev, valO_ok, pkO_ok, glO_ok, negO_ok, frzO_ok, retO_ok, augO_add, augO_sub, walkO_lst, walkO_tup, walkO_str, zipO_ok, zipI_ok, revO_ok, asB_ok, items_lst, items_tup, items_str, bindT_one, bindT_tup, setAll_nil, setAll_cons, forget_nil, forget_cons, prt_int, prt_out, isOut, keepOk_nil, keepOk_cons, recv_str, b_add, b_sub, c_lt, c_le, c_gt, c_ge, c_ltS, c_gtS, c_eqI, c_neI, c_eqS, c_neS, c_eqB, c_neB, c_isn, c_isnt, c_memS, c_nmemS, sl_lst, len_lst, len_tup, is_str, is_intI, is_boolI, is_boolB, tuple_lst, list_lst, list_tup, find_one, seqO_nx, seqO_no, seqO_rt, seqO_ex, seqO_bk, seqO_ct, seqO_seqO, seqO_ite, x_nil, sat_nx, sat_rt, sat_ex, sat_thru, sat_thru_ct, sat_nxt, sat_t1, sat_t1c, sat_t1r, sat_t1e, Rs.bind_ok, Rs.bind_ex, Rs.out_ok, Rs.out_ex, List.set_cons_succ, List.set_cons_zero, List.getElem?_cons_succ, List.getElem?_cons_zero, List.map_cons, List.map_nil, List.cons_append, List.nil_append, startG, List.reduceReplicate, List.length_cons, List.length_nil, Nat.reduceAdd, Nat.reduceSub, Nat.zero_add, Nat.add_zero, Nat.zero_le, Nat.reduceLeDiff, List.append_nil, reduceCtorEq, if_true, if_false, ite_true, ite_false, ne_eq, not_false_eq_true, not_true_eq_false, decide_true, decide_false, decide_not, Bool.not_true, Bool.not_false, Bool.and_true, Bool.true_and, Bool.and_self, Bool.false_eq_true, and_self, and_true, true_and, decide_eq_true_eq, Int.reduceEq, Int.cast_ofNat_Int, Int.reduceNe, Int.reduceLT, Int.reduceLE, Int.reduceNeg, Int.reduceAdd, Int.reduceSub, tgSlots, freeAt, List.all_cons, List.all_nil, isNon_non, isNon_str, isNon_int, isNon_bl, isNon_tup, isNon_lst, isNon_opq, fin_nx, fin_rt, fin_ex, e_xt, Bool.true_eq_false, eq_self, isc_non, isc_opq, x_xs, x_try, tryO_nx, tryO_rt, tryO_ex, hdG_as, hdG_cst, List.contains_cons, List.contains_nil, Nat.reduceBEq, beq_self_eq_true, up_nil, up_cons, tn_nx, tn_ct, tn_bk, tn_rt, tn_ex, b_fdiv, b_mod, max_two, min_two, ixl, ixt, ixl_last, ixl_zero, ixt_zero, ixs, ixs_last, ixT0, ixT1, ixT12, ixT22, ixL0, ixL1, ixM0, ixM1, ixM2, lenS, slS, rvS, catS, appL, unp2, unp3, r1, r2, r2one, e_comp2, it_nth, nat1, nat1l, natA, natM, natD, natR, natS, natS1, natE, natL, natLe, natL0, natN0, nat0, max_nats, Bool.not_eq_true', Bool.not_eq_false', List.length_map, List.length_append, List.length_range, Bool.true_or, Bool.false_or, Bool.or_true, Bool.or_false, Bool.and_false, Bool.false_and, Bool.or_self, decide_eq_false_iff_not, Nat.lt_irrefl, Bool.not_eq_eq_eq_not, not_true, not_false_iff, Nat.not_lt_zero, f_law_turns_6, f_law_forty_181, f_law_forty_6, f_law_forty_182, f_law_acting_6, f_law_acting_23, f_law_acting_180, f_law_acting_183, $xs,*])
def lixO : RA.D → Rs (Fl × RA.D) → Rs (Fl × RA.D)
  | .lst ys, r => r.bind fun b => lixD ys b.2
  | _, _ => .no
section
variable {F : FT} {G : Ev} {n : Nat}
theorem e_lix {x y : IE} : ev F (.lix x y) G = (ev F x G).bind fun a => lixO a.2 (ev F y G) := by
  simp only [ev]
  cases ev F x G with
  | ok a => obtain ⟨f, d⟩ := a; cases d <;> rfl
  | _ => rfl
theorem lixO_ok {ys : List RA.D} {f : Fl} {d : RA.D} : lixO (.lst ys) (.ok (f, d)) = lixD ys d := (rfl)
end
end RA
/-! RAI: instances of classes without __init__, made. -/
namespace RA
open PySem PySem.Spec PyProof.Rows L2
/-- C(): a new instance and its dict -/
def tNew (C : Addr) : TE := fun σ H Q => ∀ x dx, H x = none → H dx = none → dx ≠ x → Q (.ref x) (upd (upd H dx (.own x)) x (.ins C dx []))
theorem run_new {X : Cx} {C : Addr} {pins : List (Addr × Obj)} {σ : L2.St} {H : Hp} {s : Shared} {Q : VK} (hm : PySem.W.makesIn X.K C = true) (hi : PySem.W.findIn X.K (.ref C) "__init__" = some (some (.builtin "object.__init__"))) (I : Inv X pins σ H s)
    (h : ∀ x dx, H x = none → H dx = none → dx ≠ x → Q (.ref x) (upd (upd H dx (.own x)) x (.ins C dx []))) : wpAny (model X.prog X.w) X.A (call (.ref C) []) (EP X pins σ Q) X.xe s := by
  have hq := h (s.heap.objs.size + 1) s.heap.objs.size (I.hok.fresh (Nat.le_succ _)) (I.hok.fresh (Nat.le_refl _)) (Nat.ne_of_lt (Nat.lt_succ_self _))
  have I2 := Inv.made (C := C) I
  have Y := PySem.W.makes_of (M := model X.prog X.w) I.kIn hm
  refine wpAny_call (make_map0 I.kIn hm hi (fun self => PySem.W.Looks.of_pure (PySem.W.oi_bind self)) ?_)
  have ho : ((s.heap.push PySem.W.emptyDict).push (PySem.W.instObj C s.heap.objs.size)).get? (s.heap.objs.size + 1) = some (PySem.W.instObj C s.heap.objs.size) := by
    have := Heap.get?_push_size (s.heap.push PySem.W.emptyDict) (o := PySem.W.instObj C s.heap.objs.size) rfl
    rwa [Heap.size_push] at this
  have t1 : PySem.W.Looks (model X.prog X.w) ((s.heap.push PySem.W.emptyDict).push (PySem.W.instObj C s.heap.objs.size)) (typeOf (.ref (s.heap.objs.size + 1))) (.ref C) := (PySem.W.Looks.ld ho).andThen .now
  have t2 : PySem.W.Looks (model X.prog X.w) ((s.heap.push PySem.W.emptyDict).push (PySem.W.instObj C s.heap.objs.size)) (isInstance (.ref (s.heap.objs.size + 1)) (.type "object")) true := t1.andThen (Y.top.keeps fun b o e => Heap.get?_push_of_some _ (Heap.get?_push_of_some _ e))
  refine codeAny_call_builtin PySem.W.oi_plain PySem.W.entry_oi (@PySem.W.check_slot (model X.prog X.w) _ _ _ "object.__init__" "object" "__init__" (.ref (s.heap.objs.size + 1)) [] [] _ PySem.W.oi_kind PySem.W.oi_split t2 (PySem.W.oi_args (.ref (s.heap.objs.size + 1))) ?_)
  rw [PySem.W.oi_run]
  exact wpAny_pure (And.intro rfl ⟨.ref _, _, I2, rfl, hq⟩)
theorem pe_new {X : Cx} {C : Addr} {x : Str} {p pos : Pos} (hm : PySem.W.makesIn X.K C = true) (hi : PySem.W.findIn X.K (.ref C) "__init__" = some (some (.builtin "object.__init__"))) (hk : PySem.W.keepIn X.K (.ref C) = true) (hg : Gl X x) (hx : X.mg x = some (.ref C))
    (hdb : (x == ("__debug__" : Str)) = false) : PE X (.Call (.Name x p) [] [] pos) (tNew C) := by
  refine ⟨fun pins s σ H Q I h => ?_⟩
  refine wpAny_Call_Name_kw (ld_glob I hg hx ?_ hdb)
  exact PySem.W.callWith_K0 I.kIn hk (run_new hm hi I h)
/-! ### what stands for an instance -/
/-- of the class at C, its fields in the order of fs -/
def InsAt (C : Addr) (fs : List Str) (B : Addr → Prop) (H : Hp) (vs : List V) (a : Addr) : Prop := vs.length = fs.length ∧ ¬ B a ∧ ∃ dx, H a = some (.ins C dx (fs.zip vs))
theorem ins_ncel {b : Addr} {C dx : Addr} {fs : List (Str × V)} : NoCel b (.ins C dx fs) := fun oc v z => nomatch z
def opIns (T : Nat → Option (Addr × List Str)) : Op2 where
  op B H n vs a := ∃ C fs, T n = some (C, fs) ∧ InsAt C fs B H vs a
  op_mono := fun ⟨C, fs, e, h1, h2, dx, h3⟩ k _ => ⟨C, fs, e, h1, h2, dx, k _ _ h2 h3 trivial⟩
  op_grow := fun ⟨C, fs, e, h1, h2, dx, h3⟩ g => ⟨C, fs, e, h1, fun z => (g _ z).elim h2 fun q => (by rw [h3] at q; cases q), dx, h3⟩
  op_cel := fun _ ⟨C, fs, e, h1, h2, dx, h3⟩ k => ⟨C, fs, e, h1, h2, dx, k _ _ h3 trivial ins_ncel⟩
  mine n := (T n).isSome
  op_mine := fun ⟨C, fs, e, _⟩ => by rw [e]; rfl
/-! ### C() as an expression -/
structure MkC (c : Cfg) (n : Nat) (x : Str) (C : Addr) : Prop where
  at_ : c.mg x = some (.ref C)
  made : PySem.W.makesIn c.K C = true
  init : PySem.W.findIn c.K (.ref C) "__init__" = some (some (.builtin "object.__init__"))
  kp : PySem.W.keepIn c.K (.ref C) = true
  op : ∀ (B : Addr → Prop) (H : Hp) (a dx : Addr), ¬ B a → H a = some (.ins C dx []) → c.op B H n [] a
theorem mk_dec {S : Stat} {sc : Scope} {n : Nat} {x : Str} {e : Expr} {es : List Expr} (h : xtDec (.mk n x) S sc e = some es) : ∃ p pos, e = .Call (.Name x p) [] [] pos ∧ es = [] ∧ isGl sc x = true ∧ plainN x = true := by
  unfold xtDec at h
  split at h
  all_goals first | contradiction | (cases h; done) | skip
  split at h
  · rename_i hq hc
    cases hq
    cases h
    simp only [Bool.and_eq_true, decide_eq_true_eq] at hc
    obtain ⟨⟨h1, h2⟩, h3⟩ := hc
    subst h1
    exact ⟨_, _, rfl, rfl, h2, h3⟩
  · cases h
section
variable [Tabs]
theorem mk_ok {S : Stat} {c : Cfg} {n : Nat} {x : Str} {C : Addr} (hC : MkC c n x C) : XtOk S c (.mk n x) := by
  intro X O W sc B G e es as hc Cb hd hp
  subst hc
  obtain ⟨p, pos, rfl, rfl, hg, hn⟩ := mk_dec hd
  cases hp
  refine (pe_new hC.made hC.init hC.kp (Cb.gl hg) hC.at_ (plainN_of hn).1).weak fun σ H Q hq => ?_
  obtain ⟨Su, R⟩ := hq
  intro a dx h1 h2 h3
  have R' : ResE (cfg X O) B (Zof B G σ) W σ H (.ok (.val, .opq n [])) Q := R
  have s1 : Same H (upd (upd H dx (.own a)) a (.ins C dx [])) := (Same.new h2).trans (Same.new (by rw [upd_ne (Ne.symm h3)]; exact h1))
  refine R' _ _ s1 ?_
  exact Rep.opq (hC.op _ _ _ dx (fun z => Su.ztr a z h1) upd_same) .nil
/-! ### o.m(..) -/
/-! ### o.m(..) as an expression -/
structure MthC (c : Cfg) (k : Nat) (m : Str) (n f : Nat) (F : FT) : Prop where
  has : ∃ (C fa : Addr) (fd : FuncData) (ps : List Str), Cls c.K C ∧ Meth c.K C m fa ∧ FnOk c.P c.w c.K c.mg c.base (L2.CX c.P c.w) k fa fd ps (spOf c (F f)) ∧ Binds c.K fd ps [] ∧
    ∀ (B : Addr → Prop) (H : Hp) (vs : List V) (a : Addr), c.op B H n vs a → ∃ dx fs, H a = some (.ins C dx fs) ∧ fs.lookup m = none
theorem mth_dec {m : Str} {ks : List (Nat × Nat)} {S : Stat} {sc : Scope} {e : Expr} {es : List Expr} (h : xtDec (.mth m ks) S sc e = some es) :
    ∃ o apos es' cpos, e = .Call (.Attribute o m apos) es' [] cpos ∧ es = o :: es' ∧ (apos.endLine == cpos.line) = true ∧ notC0 o = true ∧ es'.all isNmE = true ∧ es'.length < 30 := by
  unfold xtDec at h
  split at h
  all_goals first | contradiction | (cases h; done) | skip
  split at h
  · rename_i hq hc
    cases hq
    cases h
    simp only [Bool.and_eq_true, decide_eq_true_eq] at hc
    obtain ⟨⟨⟨⟨h1, h2⟩, h3⟩, h4⟩, h5⟩ := hc
    subst h1
    exact ⟨_, _, _, _, rfl, rfl, h2, h3, h4, h5⟩
  · cases h
theorem nm_noex {S : Stat} {sc : Scope} {x : IE} {e : Expr} (hn : isNmE e = true) (h : okE S x sc e = true) (G : Ev) (n : Nat) (fs : List RA.D) : ev S.F x G ≠ .ex n fs := by
  cases e <;> first | exact absurd hn Bool.false_ne_true | skip
  all_goals
    cases x <;> first | (simp [okE, isXt] at h; done) | (intro z; unfold ev at z; split at z <;> cases z; done) | (intro z; unfold ev at z; cases z)
theorem parts_noex {S : Stat} {X : Cx} {O : OpT} {W : WX} {sc : Scope} {B : Addr → Prop} {G : Ev} {es : List Expr} {as : IEs} (h : RA.Parts S X O W sc B G es as) : es.all isNmE = true → ∀ n fs, evs S.F as G ≠ .ex n fs := by
  induction h with
  | nil => intro _ n fs z; simp only [evs] at z; cases z
  | cons ok _ _ ih =>
    intro ha n fs z
    rw [List.all_cons, Bool.and_eq_true] at ha
    simp only [evs] at z
    rename_i x es as _ _
    cases e1 : ev S.F x G with
    | no => rw [e1] at z; cases z
    | ex n' fs' => exact nm_noex ha.1 ok G _ _ e1
    | ok a =>
      rw [e1, Rs.bind_ok] at z
      cases e2 : evs S.F as G with
      | no => rw [e2] at z; cases z
      | ex n' fs' => exact ih ha.2 _ _ e2
      | ok b => rw [e2] at z; cases z
theorem parts_bk {S : Stat} {X : Cx} {O : OpT} {W : WX} {sc : Scope} {B : Addr → Prop} {G : Ev} {es : List Expr} {as : IEs} {pos : Pos} (h : RA.Parts S X O W sc B G es as) : (backTo pos (starEach es X.env)).any (·.1) = false := by
  refine okA_back (S := S) (sc := sc) (as := as) ?_
  induction h with
  | nil => rfl
  | cons k p _ ih => simp only [okA, Bool.and_eq_true]; exact ⟨k, ih⟩
theorem any_all {α : Type} : ∀ {l : List (Bool × α)}, l.any (·.1) = false → l.all (!·.1) = true
  | [], _ => rfl
  | x :: l, h => by
    rw [List.any_cons, Bool.or_eq_false_iff] at h
    rw [List.all_cons, any_all h.2, h.1]; rfl
theorem meth_form {o : Expr} {m : Str} {apos cpos : Pos} {es : List Expr} {env : Env} (hl : (apos.endLine == cpos.line) = true) (h0 : notC0 o = true) (hn : es.length < 30) (hb : (backTo cpos (starEach es env)).any (·.1) = false) :
    eval (.Call (.Attribute o m apos) es [] cpos) env = (do
      let ov ← eval o env
      standAt apos.atName
      let (f, first) ← holding [ov] (getMethod ov m (do return (← importBound o env).getD true))
      callWith cpos f first (backTo cpos (starEach es env)) (backToKw cpos (keywordEach [] env))) := by
  rw [arm_eval_Call, attrBase h0]
  have hform : methodCallForm (es.length + ([] : List Keyword).length) (backTo cpos (starEach es env)) (backToKw cpos (keywordEach [] env)) = true := by
    unfold methodCallForm
    rw [any_all hb]
    show (true && true && decide (es.length + 0 + 0 < 30)) = true
    rw [Bool.and_true, Bool.true_and]
    exact decide_eq_true (by omega)
  have hpos : methodCallPos true o env apos cpos = pure cpos := by unfold methodCallPos; simp [hl]
  unfold methodCall
  simp only [hform, hpos]
  rfl
theorem mth_ok {S : Stat} {c : Cfg} {m : Str} {ks : List (Nat × Nat)} (hks : ∀ n f, ks.lookup n = some f → MthC c S.k m n f S.F) : XtOk S c (.mth m ks) := by
  intro X O W sc B G e es as hc C hd hp
  subst hc
  obtain ⟨o, apos, es', cpos, rfl, rfl, hl, h0, hall, hlen⟩ := mth_dec hd
  cases hp with
  | cons ok pe rest =>
    rename_i x1 as1
    have hne := parts_noex rest hall
    have hpa := rest.pa
    have ht := meth_form (m := m) (env := X.env) hl h0 hlen (parts_bk rest)
    refine ⟨fun pins s σ H Q I hq => ?_⟩
    obtain ⟨Su, R⟩ := hq
    simp only [evs] at R
    refine PySem.W.methodCall_KW (thn (pe.run pins s σ H (fun v H1 => ∃ b, ev S.F x1 G = .ok b ∧ Same H H1 ∧ RepF (cfg X O) (Zof B G σ) H H1 b v) I ⟨Su, ?_⟩) fun u s1 ⟨v, H1, I1, r1, b, eb, sm, rv⟩ => ?_) ht
    · cases e : ev S.F x1 G with
      | no => rw [e] at R; exact R
      | ex n fs => rw [e] at R; exact R
      | ok b => exact fun v H' s' rv => ⟨b, rfl, s', rv⟩
    · rw [eb, Rs.bind_ok] at R
      have Su1 := Su.same sm
      cases e2 : evs S.F as1 G with
      | no => rw [e2] at R; exact False.elim R
      | ex n fs => exact absurd e2 (hne n fs)
      | ok ds =>
        rw [e2, Rs.bind_ok, Rs.bind_ok] at R
        obtain ⟨f, d⟩ := b
        cases d with
        | opq n cs =>
          cases ek : ks.lookup n with
          | none =>
            have R2 : ResE (cfg X O) B (Zof B G σ) W σ H (match ks.lookup n with | some g => if f = .val ∧ keepOk ds = true then (S.F g (.opq n cs :: ds.map (·.2))).bind fun r => .ok (if r.1 = true then .own else .val, r.2) else .no | none => .no) Q := R
            rw [ek] at R2; exact False.elim R2
          | some g =>
            have R2 : ResE (cfg X O) B (Zof B G σ) W σ H (match ks.lookup n with | some g => if f = .val ∧ keepOk ds = true then (S.F g (.opq n cs :: ds.map (·.2))).bind fun r => .ok (if r.1 = true then .own else .val, r.2) else .no | none => .no) Q := R
            clear R
            rw [ek] at R2
            have R3 : ResE (cfg X O) B (Zof B G σ) W σ H (if f = .val ∧ keepOk ds = true then (S.F g (.opq n cs :: ds.map (·.2))).bind fun r => .ok (if r.1 = true then .own else .val, r.2) else .no) Q := R2
            clear R2
            split at R3
            · rename_i hcnd
              obtain ⟨rfl, hkp⟩ := hcnd
              obtain ⟨C', fa, fd, ps, hcl, hm, F, hb, at_⟩ := (hks n g ek).has
              have rv : Rep (cfg X O) (Zof B G σ) H1 (.opq n cs) v := rv
              cases rv with
              | opq ho hrs =>
                rename_i a vs0
                obtain rfl : u = Value.ref a := r1
                obtain ⟨dx, fs, hh, hlk⟩ := at_ _ _ _ _ ho
                refine getmeth_ok I1 hh hcl hm hlk ?_
                have fin : ∀ (vs : List V) (H2 : Hp), Same H1 H2 → RepsF (cfg X O) (Zof B G σ) H1 H2 ds vs → spOf (cfg X O) (S.F g) (.ref a :: vs) H2 Q (WE W σ) := fun vs H2 sm2 rvs => by
                  have Su2 := Su1.same sm2
                  refine ⟨Zof B G σ, .opq n cs :: ds.map (·.2), Su2.ztr, Su2.tab, .cons ((Rep.opq ho hrs).same sm2) (rvs.keep hkp Su1.ztr), ?_⟩
                  cases e : S.F g (.opq n cs :: ds.map (·.2)) with
                  | no => rw [e] at R3; exact False.elim R3
                  | ex c fs => rw [e] at R3; exact fun cls dd H' s' e' => R3 cls dd H' ((sm.trans sm2).trans s') e'
                  | ok r =>
                    rw [e] at R3
                    obtain ⟨o, d⟩ := r
                    exact fun v H' s' rv => R3 v H' ((sm.trans sm2).trans s') (RepF.back rv (sm.trans sm2))
                cases rest with
                | nil =>
                  simp only [evs] at e2
                  cases e2
                  exact PySem.W.callWith_K0 (first := [.ref a]) I1.kIn hm.kp (run_fnS (us := [.ref a]) (vs := [.ref a]) F C.room hb (passAt C.tk σ) I1 (.cons rfl .nil) (fin [] H1 (Same.refl _) .nil))
                | cons ok2 pe2 rest2 =>
                  refine PySem.W.callWith_K (first := [.ref a]) (h₀ := X.base) I.ok.mod.kin hm.kp (thn (hpa.run cpos pins s1 σ H1 (fun vs H2 => Same H1 H2 ∧ RepsF (cfg X O) (Zof B G σ) H1 H2 ds vs) I1 ⟨Su1, ?_⟩) fun us s2 ⟨vs, H2, I2, r2, sm2, rvs⟩ => ⟨I2.kIn, run_fnS (us := .ref a :: us) (vs := .ref a :: vs) F C.room hb (passAt C.tk σ) I2 (.cons rfl r2) (fin vs H2 sm2 rvs)⟩) (star_cons (okE_plain ok2)) (parts_bk rest2)
                  rw [e2]
                  exact fun vs H' s' rv => ⟨s', rv⟩
            · exact False.elim R3
        | _ => exact False.elim R
/-! parts of the facts -/
theorem ins_at {ecls : Nat → Addr} {en : Nat → List Str} {T : Nat → Option (Addr × List Str)} {n : Nat} {C : Addr} {fs : List Str} (t : T n = some (C, fs)) (B : Addr → Prop) (H : Hp) (vs : List V) (a : Addr) (h : (O1 ecls en (opIns T)).op B H n vs a) : InsAt C fs B H vs a := by
  have h : (if (opIns T).mine n = true then (opIns T).op B H n vs a else errOp ecls en B H n vs a) := h
  have m : (opIns T).mine n = true := by show (T n).isSome = true; rw [t]; rfl
  rw [if_pos m] at h
  obtain ⟨C', fs', e, h⟩ := h
  rw [t] at e; cases e
  exact h
theorem ins_op {ecls : Nat → Addr} {en : Nat → List Str} {T : Nat → Option (Addr × List Str)} {n : Nat} {C : Addr} {fs : List Str} (t : T n = some (C, fs)) (B : Addr → Prop) (H : Hp) (vs : List V) (a : Addr) (h : InsAt C fs B H vs a) : (O1 ecls en (opIns T)).op B H n vs a := by
  show (if (opIns T).mine n = true then (opIns T).op B H n vs a else errOp ecls en B H n vs a)
  have m : (opIns T).mine n = true := by show (T n).isSome = true; rw [t]; rfl
  rw [if_pos m]
  exact ⟨C, fs, t, h⟩
theorem mk_new {ecls : Nat → Addr} {en : Nat → List Str} {T : Nat → Option (Addr × List Str)} {n : Nat} {C : Addr} (t : T n = some (C, [])) (B : Addr → Prop) (H : Hp) (a dx : Addr) (h1 : ¬ B a) (h2 : H a = some (.ins C dx [])) : (O1 ecls en (opIns T)).op B H n [] a :=
  ins_op t B H [] a ⟨rfl, h1, dx, h2⟩
theorem lookup_zipn {m : Str} : ∀ {fs : List Str} {vs : List V}, fs.contains m = false → (fs.zip vs).lookup m = none
  | [], _, _ => rfl
  | f :: fs, [], _ => rfl
  | f :: fs, v :: vs, h => by
    rw [List.contains_cons, Bool.or_eq_false_iff] at h
    show List.lookup m ((f, v) :: fs.zip vs) = none
    rw [List.lookup_cons, h.1]
    exact lookup_zipn h.2
/-- the facts of one method of one class -/
theorem mthC_mk {ecls : Nat → Addr} {en : Nat → List Str} {T : Nat → Option (Addr × List Str)} {P : Program} {w : World} {K : PySem.W.Frag} {mg : Str → Option Value} {base : Heap} {k j n f : Nat} {m : Str} {C fa : Addr} {fs : List Str} {F : FT} {mm : List RA.D → Rs (Bool × RA.D)} {fd : FuncData} {ps : List Str}
    (N : FnOk P w K mg base (L2.CX P w) j fa fd ps (spOf { toOpT := O1 ecls en (opIns T), P := P, w := w, K := K, mg := mg, base := base } mm)) (b : Binds K fd ps []) (c : Cls K C) (h : Meth K C m fa) (t : T n = some (C, fs)) (hm : fs.contains m = false) (hF : F f = mm) (hj : j ≤ k) :
    MthC { toOpT := O1 ecls en (opIns T), P := P, w := w, K := K, mg := mg, base := base } k m n f F :=
  ⟨⟨C, fa, fd, ps, c, h, by rw [hF]; exact N.mono hj, b, fun B H vs a q => by
    obtain ⟨h1, h2, dx, h3⟩ := ins_at t B H vs a q
    exact ⟨dx, _, h3, lookup_zipn hm⟩⟩⟩
theorem ms_nil {c : Cfg} {k : Nat} {m : Str} {F : FT} : ∀ n f : Nat, ([] : List (Nat × Nat)).lookup n = some f → MthC c k m n f F := fun n f h => by cases h
theorem ms_cons {c : Cfg} {k : Nat} {m : Str} {F : FT} {n f : Nat} {l : List (Nat × Nat)} (h : MthC c k m n f F) (r : ∀ n f : Nat, l.lookup n = some f → MthC c k m n f F) : ∀ n' f' : Nat, ((n, f) :: l).lookup n' = some f' → MthC c k m n' f' F := fun n' f' e => by
  rw [List.lookup_cons] at e
  split at e
  · rename_i q
    cases e
    rw [eq_of_beq q]; exact h
  · exact r _ _ e
end
end RA
/-! RAJ: t + u of tuples; for k, v in d.items(). -/
namespace RA
open PySem PySem.Spec PyProof.Rows L2
section
variable [Tabs]
/-! ### t + u -/
theorem ctu_dec {S : Stat} {sc : Scope} {e : Expr} {es : List Expr} (h : xtDec .ctu S sc e = some es) : ∃ l r pos, e = .BinOp l .Add r pos ∧ es = [l, r] := by
  unfold xtDec at h
  split at h
  all_goals first | contradiction | (cases h; done) | skip
  cases h
  exact ⟨_, _, _, rfl, rfl⟩
theorem ctu_ok {S : Stat} {c : Cfg} : XtOk S c .ctu := by
  intro X O W sc B G e es as hc C hd hp
  subst hc
  obtain ⟨l, r, pos, rfl, rfl⟩ := ctu_dec hd
  cases hp with
  | cons ok pe rest =>
    cases rest with
    | cons ok2 pe2 rest2 =>
      cases rest2
      rename_i x y
      refine (pe_op op_catA pe pe2).weak fun σ H Q hq => ?_
      simp only [evs] at hq
      have hq : tE (cfg X O) B W G ((ev S.F x G).bind fun a => (ev S.F y G).bind fun b => xtD S.F .ctu [a, b]) σ H Q := by
        cases e1 : ev S.F x G with
        | no => rw [e1] at hq; exact hq
        | ex n fs => rw [e1] at hq; exact hq
        | ok a =>
          rw [e1] at hq
          cases e2 : ev S.F y G with
          | no => rw [e2] at hq; exact hq
          | ex n fs => rw [e2] at hq; exact hq
          | ok b => rw [e2] at hq; exact hq
      refine two_read hq fun a b x y H1 H2 ea eb s1 s2 Su zt ra rb R => ?_
      obtain ⟨fa, a⟩ := a
      obtain ⟨fb, b⟩ := b
      cases a with
      | tup xs =>
        cases b with
        | tup ys =>
          have R' : ResE (cfg X O) B (Zof B G σ) W σ H (if xs.length + ys.length ≤ 16777216 then .ok (.val, .tup (xs ++ ys)) else .no) Q := R
          split at R'
          · rename_i hj
            obtain ⟨p, vs, rfl, h1, r1⟩ := ra.tup
            obtain ⟨q, ws, rfl, h2, r2⟩ := rb.tup
            refine ⟨p, q, vs, ws, rfl, rfl, h1.sq, h2.sq, by rw [← r1.length, ← r2.length, sizeLine_eq]; omega, fun e1 => ?_, fun _ e2 => ?_, fun _ _ p' hp' => ?_⟩
            · subst e1
              cases r1
              exact R' _ _ (s1.trans s2) (show Rep (cfg X O) (Zof B G σ) H2 (.tup ys) (.ref q) from .tup h2 r2)
            · subst e2
              cases r2
              rw [List.append_nil] at R'
              exact R' _ _ (s1.trans s2) (show Rep (cfg X O) (Zof B G σ) H2 (.tup xs) (.ref p) from .tup h1 r1)
            · have n := newT (c := cfg X O) (Z := Zof B G σ) zt (s1.trans s2) hp' (Reps.app r1 r2)
              exact R' _ _ ((s1.trans s2).trans n.1) n.2
          · exact False.elim R'
        | _ => exact False.elim R
      | _ => exact False.elim R
/-! ### for k, v in d.items() -/
end
end RA
/-! W20: the machines of the laws of kinds. -/
namespace RA
open PySem PySem.Spec PyProof.Rows L2
/- 309 _law_marks(_law_script, _law_rooms); slots: 0=_law_script 1=_law_rooms 2=_law_room; calls: 6=law_cell_at -/
def i_law_marks : IS := (.seq (.ret (.bi .tuple (.cons (.comp (.one 2) (.rng1 (.v 1)) (.k (.bl true)) (.cmp .eq (.b .mod (.call 6 (.cons (.v 0) (.cons (.b .add (.k (.int 4)) (.v 2)) .nil))) (.k (.int 2))) (.k (.int 1)))) .nil))) .nil)
def f_law_marks : FT := fun n ds => match n, ds with | 6, ds => m_law_cell_at ds | _, _ => .no
@[simp] theorem f_law_marks_6 (ds : List RA.D) : f_law_marks 6 ds = m_law_cell_at ds := (rfl)
def m_law_marks : List RA.D → Rs (Bool × RA.D) := mk 2 3 f_law_marks i_law_marks
/- 310 _law_tallied(_law_script, _law_letters_here); slots: 0=_law_script 1=_law_letters_here 2=_law_number 3=_law_left 4=_law_rows 5=_law_tuples 6=_law_sign 7=_law_ways 8=_law_some 9=_law_size 10=_law_low 11=_law_longer 12=_law_row 13=_law_k 14=_law_many; calls: 6=law_cell_at 309=law_marks -/
def i_law_tallied : IS := (.seq (.set 2 (.b .mod (.call 6 (.cons (.v 0) (.cons (.k (.int 3)) .nil))) (.b .pow (.k (.int 10)) (.k (.int 9))))) (.seq (.set 3 (.k (.int 8))) (.seq (.own 4 (.lst .nil)) (.seq (.set 5 (.lst (.cons (.tup .nil) .nil))) (.seq (.for_ (.one 6) (.ex (.v 1)) (.seq (.set 9 (.b .add (.k (.int 1)) (.b .mod (.v 2) (.v 3)))) (.seq (.set 10 (.b .mod (.b .fdiv (.v 2) (.k (.int 8))) (.v 9))) (.seq (.set 2 (.b .fdiv (.v 2) (.k (.int 64)))) (.seq (.set 3 (.b .fdiv (.v 3) (.v 9))) (.seq (.app 4 (.tup (.cons (.v 10) (.cons (.v 9) .nil)))) (.seq (.set 11 (.lst .nil)) (.seq (.for_ (.one 8) (.ex (.v 5)) (.seq (.set 11 (.xt .cat (.cons (.v 11) (.cons (.comp (.one 14) (.rng1 (.v 9)) (.k (.bl true)) (.xt .ctu (.cons (.v 8) (.cons (.tup (.cons (.v 14) .nil)) .nil)))) .nil)))) .nil)) (.seq (.set 5 (.v 11)) .nil))))))))) (.seq (.own 7 (.lst .nil)) (.seq (.for_ (.one 8) (.ex (.v 5)) (.seq (.own 12 (.lst .nil)) (.seq (.for_ (.one 13) (.rng1 (.bi .len (.cons (.v 1) .nil))) (.seq (.set 14 (.b .add (.ix (.v 8) (.v 13)) (.k (.int 1)))) (.seq (.if_ (.cmp .eq (.v 14) (.ix (.ix (.pk 4) (.v 13)) (.k (.int 1)))) (.seq (.set 14 (.ix (.ix (.pk 4) (.v 13)) (.k (.int 0)))) .nil) .nil) (.seq (.app 12 (.lix (.v 5) (.xt .ctu (.cons (.xt .ctu (.cons (.sl (.v 8) .out (.v 13)) (.cons (.tup (.cons (.v 14) .nil)) .nil))) (.cons (.sl (.v 8) (.b .add (.v 13) (.k (.int 1))) .out) .nil))))) .nil)))) (.seq (.app 7 (.bi .tuple (.cons (.pk 12) .nil))) (.seq (.fgt [12]) .nil))))) (.seq (.ret (.tup (.cons (.v 1) (.cons (.bi .tuple (.cons (.pk 7) .nil)) (.cons (.call 309 (.cons (.v 0) (.cons (.bi .len (.cons (.pk 7) .nil)) .nil))) .nil))))) .nil))))))))
def f_law_tallied : FT := fun n ds => match n, ds with | 6, ds => m_law_cell_at ds | 309, ds => m_law_marks ds | _, _ => .no
@[simp] theorem f_law_tallied_6 (ds : List RA.D) : f_law_tallied 6 ds = m_law_cell_at ds := (rfl)
@[simp] theorem f_law_tallied_309 (ds : List RA.D) : f_law_tallied 309 ds = m_law_marks ds := (rfl)
def m_law_tallied : List RA.D → Rs (Bool × RA.D) := mk 2 15 f_law_tallied i_law_tallied
/- 311 _law_forward(_law_script, _law_letters_here, _law_strict); slots: 0=_law_script 1=_law_letters_here 2=_law_strict 3=_law_rooms 4=_law_drawn 5=_law_ends 6=_law_ways 7=_law_room 8=_law_goal; calls: 23=law_machine 6=law_cell_at -/
def i_law_forward : IS := (.seq (.set 3 (.b .add (.k (.int 1)) (.b .mod (.call 6 (.cons (.v 0) (.cons (.k (.int 3)) .nil))) (.k (.int 6))))) (.seq (.set 4 (.call 23 (.cons (.v 0) (.cons (.k (.int 4)) (.cons (.v 3) (.cons (.v 1) .nil)))))) (.seq (.set 5 (.b .sub (.b .sub (.v 3) (.k (.int 1))) (.b .mod (.b .fdiv (.call 6 (.cons (.v 0) (.cons (.k (.int 3)) .nil))) (.k (.int 6))) (.k (.int 2))))) (.seq (.own 6 (.lst .nil)) (.seq (.for_ (.one 7) (.rng1 (.v 3)) (.seq (.if_ (.not_ (.v 2)) (.seq (.app 6 (.bi .tuple (.cons (.comp (.one 8) (.ex (.ix (.ix (.v 4) (.k (.int 1))) (.v 7))) (.k (.bl true)) (.b .add (.v 7) (.b .mod (.v 8) (.b .sub (.v 3) (.v 7))))) .nil))) .nil) (.seq (.if_ (.cmp .lt (.v 7) (.v 5)) (.seq (.app 6 (.bi .tuple (.cons (.comp (.one 8) (.ex (.ix (.ix (.v 4) (.k (.int 1))) (.v 7))) (.k (.bl true)) (.b .add (.b .add (.v 7) (.k (.int 1))) (.b .mod (.v 8) (.b .sub (.b .sub (.v 3) (.k (.int 1))) (.v 7))))) .nil))) .nil) (.seq (.app 6 (.bi .tuple (.cons (.comp (.one 8) (.ex (.ix (.ix (.v 4) (.k (.int 1))) (.v 7))) (.k (.bl true)) (.v 7)) .nil))) .nil)) .nil)) .nil)) (.seq (.ret (.tup (.cons (.v 1) (.cons (.bi .tuple (.cons (.pk 6) .nil)) (.cons (.ix (.v 4) (.k (.int 2))) .nil))))) .nil))))))
def f_law_forward : FT := fun n ds => match n, ds with | 23, ds => m_law_machine ds | 6, ds => m_law_cell_at ds | _, _ => .no
@[simp] theorem f_law_forward_23 (ds : List RA.D) : f_law_forward 23 ds = m_law_machine ds := (rfl)
@[simp] theorem f_law_forward_6 (ds : List RA.D) : f_law_forward 6 ds = m_law_cell_at ds := (rfl)
def m_law_forward : List RA.D → Rs (Bool × RA.D) := mk 3 9 f_law_forward i_law_forward
/- 312 _law_memory(_law_script, _law_letters_here); slots: 0=_law_script 1=_law_letters_here 2=_law_size 3=_law_places 4=_law_labels 5=_law_ways 6=_law_at 7=_law_row 8=_law_sign 9=_law_label; calls: 309=law_marks 6=law_cell_at -/
def i_law_memory : IS := (.seq (.set 2 (.b .add (.k (.int 1)) (.b .mod (.call 6 (.cons (.v 0) (.cons (.k (.int 3)) .nil))) (.ix (.lst (.cons (.k (.int 6)) (.cons (.k (.int 2)) (.cons (.k (.int 1)) .nil)))) (.b .sub (.bi .len (.cons (.v 1) .nil)) (.k (.int 1))))))) (.seq (.own 3 (.dct (.cons (.k (.str [])) .nil) (.cons (.k (.int 0)) .nil))) (.seq (.own 4 (.lst (.cons (.k (.str [])) .nil))) (.seq (.own 5 (.lst .nil)) (.seq (.set 6 (.k (.int 0))) (.seq (.whl (.cmp .lt (.v 6) (.bi .len (.cons (.pk 4) .nil))) (.seq (.own 7 (.lst .nil)) (.seq (.for_ (.one 8) (.ex (.v 1)) (.seq (.set 9 (.sl (.b .add (.ix (.pk 4) (.v 6)) (.v 8)) (.neg (.v 2)) .out)) (.seq (.if_ (.cmp .nmem (.v 9) (.pk 3)) (.seq (.put 3 (.v 9) (.bi .len (.cons (.pk 4) .nil))) (.seq (.app 4 (.v 9)) .nil)) .nil) (.seq (.app 7 (.ix (.pk 3) (.v 9))) .nil)))) (.seq (.app 5 (.bi .tuple (.cons (.pk 7) .nil))) (.seq (.set 6 (.b .add (.v 6) (.k (.int 1)))) (.seq (.fgt [7]) .nil)))))) (.seq (.ret (.tup (.cons (.v 1) (.cons (.bi .tuple (.cons (.pk 5) .nil)) (.cons (.call 309 (.cons (.v 0) (.cons (.bi .len (.cons (.pk 5) .nil)) .nil))) .nil))))) .nil)))))))
def f_law_memory : FT := fun n ds => match n, ds with | 309, ds => m_law_marks ds | 6, ds => m_law_cell_at ds | _, _ => .no
@[simp] theorem f_law_memory_309 (ds : List RA.D) : f_law_memory 309 ds = m_law_marks ds := (rfl)
@[simp] theorem f_law_memory_6 (ds : List RA.D) : f_law_memory 6 ds = m_law_cell_at ds := (rfl)
def m_law_memory : List RA.D → Rs (Bool × RA.D) := mk 2 10 f_law_memory i_law_memory
/- 313 _law_lots(_law_script, _law_letters_here); slots: 0=_law_script 1=_law_letters_here 2=_law_ways 3=_law_room 4=_law_bit; calls: 309=law_marks -/
def i_law_lots : IS := (.seq (.own 2 (.lst .nil)) (.seq (.for_ (.one 3) (.rng1 (.ix (.lst (.cons (.k (.int 2)) (.cons (.k (.int 4)) (.cons (.k (.int 8)) .nil)))) (.b .sub (.bi .len (.cons (.v 1) .nil)) (.k (.int 1))))) (.seq (.app 2 (.bi .tuple (.cons (.comp (.one 4) (.ex (.sl (.lst (.cons (.k (.int 1)) (.cons (.k (.int 2)) (.cons (.k (.int 4)) .nil)))) .out (.bi .len (.cons (.v 1) .nil)))) (.k (.bl true)) (.b .bor (.v 3) (.v 4))) .nil))) .nil)) (.seq (.ret (.tup (.cons (.v 1) (.cons (.bi .tuple (.cons (.pk 2) .nil)) (.cons (.call 309 (.cons (.v 0) (.cons (.bi .len (.cons (.pk 2) .nil)) .nil))) .nil))))) .nil)))
def f_law_lots : FT := fun n ds => match n, ds with | 309, ds => m_law_marks ds | _, _ => .no
@[simp] theorem f_law_lots_309 (ds : List RA.D) : f_law_lots 309 ds = m_law_marks ds := (rfl)
def m_law_lots : List RA.D → Rs (Bool × RA.D) := mk 2 5 f_law_lots i_law_lots
/- 314 _law_built(_law_script, _law_letters_here, _law_kind); slots: 0=_law_script 1=_law_letters_here 2=_law_kind; calls: 310=law_tallied 23=law_machine 311=law_forward 312=law_memory 313=law_lots 6=law_cell_at -/
def i_law_built : IS := (.seq (.if_ (.cmp .eq (.v 2) (.k (.int 0))) (.seq (.ret (.call 23 (.cons (.v 0) (.cons (.k (.int 4)) (.cons (.b .add (.k (.int 1)) (.b .mod (.call 6 (.cons (.v 0) (.cons (.k (.int 3)) .nil))) (.k (.int 8)))) (.cons (.v 1) .nil)))))) .nil) .nil) (.seq (.if_ (.cmp .lt (.v 2) (.k (.int 3))) (.seq (.ret (.call 311 (.cons (.v 0) (.cons (.v 1) (.cons (.cmp .eq (.v 2) (.k (.int 2))) .nil))))) .nil) .nil) (.seq (.if_ (.cmp .eq (.v 2) (.k (.int 3))) (.seq (.ret (.call 312 (.cons (.v 0) (.cons (.v 1) .nil)))) .nil) .nil) (.seq (.if_ (.cmp .eq (.v 2) (.k (.int 4))) (.seq (.ret (.call 313 (.cons (.v 0) (.cons (.v 1) .nil)))) .nil) .nil) (.seq (.ret (.call 310 (.cons (.v 0) (.cons (.v 1) .nil)))) .nil)))))
def f_law_built : FT := fun n ds => match n, ds with | 310, ds => m_law_tallied ds | 23, ds => m_law_machine ds | 311, ds => m_law_forward ds | 312, ds => m_law_memory ds | 313, ds => m_law_lots ds | 6, ds => m_law_cell_at ds | _, _ => .no
@[simp] theorem f_law_built_310 (ds : List RA.D) : f_law_built 310 ds = m_law_tallied ds := (rfl)
@[simp] theorem f_law_built_23 (ds : List RA.D) : f_law_built 23 ds = m_law_machine ds := (rfl)
@[simp] theorem f_law_built_311 (ds : List RA.D) : f_law_built 311 ds = m_law_forward ds := (rfl)
@[simp] theorem f_law_built_312 (ds : List RA.D) : f_law_built 312 ds = m_law_memory ds := (rfl)
@[simp] theorem f_law_built_313 (ds : List RA.D) : f_law_built 313 ds = m_law_lots ds := (rfl)
@[simp] theorem f_law_built_6 (ds : List RA.D) : f_law_built 6 ds = m_law_cell_at ds := (rfl)
def m_law_built : List RA.D → Rs (Bool × RA.D) := mk 3 3 f_law_built i_law_built
local macro_rules | `(tactic| dsimp! [$xs,*]) => `(tactic| simp (disch := first | assumption | omega | (simp only [List.length_map, List.length_append, List.length_cons, List.length_nil, List.length_range, List.length_set]; omega) | decide | rfl) only [tstO_eq, x_seq, x_set, x_own, x_do, x_if, x_for, x_whl, x_ret, x_retN, x_pass, x_brk, x_cnt, x_rse, x_fgt, x_frz, x_retp, x_app, x_aug, x_unp, x_put, e_v, e_pk, e_k, e_gl, e_b, e_neg, e_cmp, e_and, e_or, e_not, e_ife, e_tup, e_lst, e_dct, e_dct1, e_lset, e_ix, e_sl, e_rv, rv_lst, e_out, e_bi, e_me, e_call, es_nil, es_cons, i_ex, i_rng1, i_rng2, i_zip, i_rev, valO_ok, pkO_ok, glO_ok, negO_ok, frzO_ok, retO_ok, augO_add, augO_sub, walkO_lst, walkO_tup, walkO_str, zipO_ok, zipI_ok, revO_ok, asB_ok, items_lst, items_tup, items_str, bindT_one, bindT_tup, setAll_nil, setAll_cons, forget_nil, forget_cons, prt_int, prt_out, isOut, keepOk_nil, keepOk_cons, recv_str, b_add, b_sub, c_lt, c_le, c_gt, c_ge, c_ltS, c_gtS, c_eqI, c_neI, c_eqS, c_neS, c_eqB, c_neB, c_isn, c_isnt, c_memS, c_nmemS, sl_lst, len_lst, len_tup, is_str, is_intI, is_boolI, is_boolB, tuple_lst, list_lst, list_tup, find_one, seqO_nx, seqO_no, seqO_rt, seqO_ex, seqO_bk, seqO_ct, seqO_seqO, seqO_ite, x_nil, sat_nx, sat_rt, sat_ex, sat_thru, sat_thru_ct, sat_nxt, sat_t1, sat_t1c, sat_t1r, sat_t1e, Rs.bind_ok, Rs.bind_ex, Rs.out_ok, Rs.out_ex, List.set_cons_succ, List.set_cons_zero, List.getElem?_cons_succ, List.getElem?_cons_zero, List.map_cons, List.map_nil, List.cons_append, List.nil_append, startG, List.reduceReplicate, List.length_cons, List.length_nil, Nat.reduceAdd, Nat.reduceSub, Nat.zero_add, Nat.add_zero, Nat.zero_le, Nat.reduceLeDiff, List.append_nil, reduceCtorEq, if_true, if_false, ite_true, ite_false, ne_eq, not_false_eq_true, not_true_eq_false, decide_true, decide_false, decide_not, Bool.not_true, Bool.not_false, Bool.and_true, Bool.true_and, Bool.and_self, Bool.false_eq_true, and_self, and_true, true_and, decide_eq_true_eq, Int.reduceEq, Int.cast_ofNat_Int, Int.reduceNe, Int.reduceLT, Int.reduceLE, Int.reduceNeg, Int.reduceAdd, Int.reduceSub, tgSlots, freeAt, List.all_cons, List.all_nil, isNon_non, isNon_str, isNon_int, isNon_bl, isNon_tup, isNon_lst, isNon_opq, fin_nx, fin_rt, fin_ex, e_xt, Bool.true_eq_false, eq_self, isc_non, isc_opq, x_xs, x_try, tryO_nx, tryO_rt, tryO_ex, hdG_as, hdG_cst, List.contains_cons, List.contains_nil, Nat.reduceBEq, beq_self_eq_true, up_nil, up_cons, tn_nx, tn_ct, tn_bk, tn_rt, tn_ex, b_fdiv, b_mod, max_two, min_two, ixl, ixt, ixl_last, ixl_zero, ixt_zero, ixs, ixs_last, ixT0, ixT1, ixT12, ixT22, ixL0, ixL1, ixM0, ixM1, ixM2, lenS, slS, rvS, catS, appL, unp2, unp3, r1, r2, r2one, e_comp2, it_nth, nat1, nat1l, natA, natM, natD, natR, natS, natS1, natE, natL, natLe, natL0, natN0, nat0, max_nats, Bool.not_eq_true', Bool.not_eq_false', List.length_map, List.length_append, List.length_range, Bool.true_or, Bool.false_or, Bool.or_true, Bool.or_false, Bool.and_false, Bool.false_and, Bool.or_self, decide_eq_false_iff_not, Nat.lt_irrefl, Bool.not_eq_eq_eq_not, not_true, not_false_iff, Nat.not_lt_zero, f_law_marks_6, f_law_tallied_6, f_law_tallied_309, f_law_forward_23, f_law_forward_6, f_law_memory_309, f_law_memory_6, f_law_lots_309, f_law_built_310, f_law_built_23, f_law_built_311, f_law_built_312, f_law_built_313, f_law_built_6, $xs,*])
theorem cellc (ns : List Int) (a x : Nat) : m_law_cell_at [.lst (ns.map .int), .int ((a : Int) + (x : Nat))] = .ok (false, .int (ns.getD (a + x) 0)) := by
  have := cell_at_ok ns (a + x)
  rw [← this]; congr 3
theorem marks_ok (ns : List Int) {n : Nat} (h : n ≤ 1000) : ∃ marks : List Bool, m_law_marks [.lst (ns.map .int), .int n] = .ok (false, .tup (marks.map .bl)) ∧ marks.length = n := by
  refine mk_sat (R := fun z => ∃ marks : List Bool, z = .ok (false, .tup (marks.map .bl)) ∧ marks.length = n) rfl ?_
  unfold i_law_marks
  have c : ∀ x : Nat, m_law_cell_at [.lst (ns.map .int), .int (4 + (x : Int))] = .ok (false, .int (ns.getD (4 + x) 0)) := fun x => cellc ns 4 x
  have g : ∀ z : Int, binD .mod (.int z) (.int 2) = .ok (.val, .int (z % 2)) := fun z => b_mod (by omega)
  dsimp! [rng_map]
  rw [comp_of (xs := List.range n) (fun r => .bl (decide (ns.getD (4 + r) 0 % 2 = 1))) rfl (by rw [List.length_range]; omega) fun j x hx hj => ⟨_, rfl, .val, by decide, by dsimp! [c, g]⟩]
  dsimp! [up_nil]
  simp only [Sat, fin]
  exact ⟨(List.range n).map fun (r : Nat) => decide (ns.getD (4 + r) 0 % 2 = 1), by rw [List.map_map]; rfl, by rw [List.length_map, List.length_range]⟩
theorem forward_ok (ns : List Int) {s : List Nat} (L : Ltrs s) (st : Bool) : ∃ rows marks, m_law_forward [.lst (ns.map .int), .str s, .bl st] = .ok (false, mD s rows marks) ∧ Mach s rows marks ∧ rows.length ≤ 8 := by
  refine mk_sat (R := fun z => ∃ rows marks, z = .ok (false, mD s rows marks) ∧ Mach s rows marks ∧ rows.length ≤ 8) rfl ?_
  unfold i_law_forward
  have sl := L.le
  have c3 : m_law_cell_at [.lst (ns.map .int), .int 3] = .ok (false, .int (ns.getD 3 0)) := cell_at_ok ns 3
  generalize ns.getD 3 0 = z at c3
  obtain ⟨k1, ek1, hk1⟩ := mod_ix (show 0 < 6 by omega) z
  have ek1 : z % 6 = (k1 : Int) := ek1
  have d1 : binD .mod (.int z) (.int 6) = .ok (.val, .int k1) := by rw [b_mod (by omega), ek1]
  obtain ⟨n, hn⟩ : ∃ n, 1 + k1 = n := ⟨_, rfl⟩
  obtain ⟨rows0, marks0, em, M0, l0⟩ := machine_ok ns 4 (n := n) (by omega) (by omega) L
  have em : m_law_machine [.lst (ns.map .int), .int 4, .int (n : Int), .str s] = .ok (false, mD s rows0 marks0) := em
  have d2 : binD .fdiv (.int z) (.int 6) = .ok (.val, .int (z / 6)) := b_fdiv (by omega) (by omega)
  have d3 : binD .mod (.int (z / 6)) (.int 2) = .ok (.val, .int (z / 6 % 2)) := b_mod (by omega)
  have e0 : 0 ≤ z / 6 % 2 := Int.emod_nonneg _ (by omega)
  generalize z / 6 % 2 = e at d3 e0
  dsimp! [c3, d1, hn, em, d2, d3]
  have R0 := M0.rws
  refine for_rng (fun G0 i G => ∃ (ws : List (List Nat)) (t8 : Option (Bool × RA.D)), G = up G0 [(6, some (true, .lst (ws.map (fun r : List Nat => RA.D.tup (r.map (fun (n : Nat) => RA.D.int n)))))), (7, t8), (8, none)] ∧ ws.length = i ∧ ∀ r ∈ ws, r.length = s.length ∧ ∀ g ∈ r, g < n) ⟨[], none, rfl, rfl, fun r h => by cases h⟩ ?_ ?_
  · rintro i G hi ⟨ws, t8, rfl, wl, hw⟩
    refine ⟨_, rfl, ?_⟩
    have hi0 : i < rows0.length := by omega
    obtain ⟨h1, h2⟩ := R0.row i hi0
    have push : ∀ f : Nat → Nat, (∀ g < n, f g < n) → ∀ r ∈ ws ++ [(it rows0 i).map f], r.length = s.length ∧ ∀ g ∈ r, g < n := fun f hf r hr => by
      rcases List.mem_append.mp hr with q | q
      · exact hw r q
      · rw [List.mem_singleton.mp q]
        refine ⟨by rw [List.length_map, h1], fun g hg => ?_⟩
        obtain ⟨x, hx, rfl⟩ := List.mem_map.mp hg
        have := h2 x hx
        exact hf _ (by omega)
    cases st with
    | false =>
      dsimp! [up_nil]
      rw [comp_of (xs := it rows0 i) (fun g => .int ((i + g % (n - i) : Nat) : Int)) rfl (by omega) fun j x hx hj => ⟨_, rfl, .val, by decide, by dsimp! [up_nil]⟩]
      dsimp! [up_nil]
      refine ⟨ws ++ [(it rows0 i).map fun g => i + g % (n - i)], _, by rw [List.map_append, List.map_singleton, List.map_map]; rfl, by rw [List.length_append, wl]; rfl, push _ fun g hg => ?_⟩
      have := Nat.mod_lt g (show 0 < n - i by omega)
      omega
    | true =>
      by_cases q : (i : Int) < ((n - 1 : Nat) : Int) - e
      · dsimp! [q]
        rw [comp_of (xs := it rows0 i) (fun g => .int ((i + 1 + g % (n - 1 - i) : Nat) : Int)) rfl (by omega) fun j x hx hj => ⟨_, rfl, .val, by decide, by dsimp! [up_nil]⟩]
        dsimp! [up_nil]
        refine ⟨ws ++ [(it rows0 i).map fun g => i + 1 + g % (n - 1 - i)], _, by rw [List.map_append, List.map_singleton, List.map_map]; rfl, by rw [List.length_append, wl]; rfl, push _ fun g hg => ?_⟩
        have := Nat.mod_lt g (show 0 < n - 1 - i by omega)
        omega
      · dsimp! [q]
        rw [comp_of (xs := it rows0 i) (fun g => .int (i : Nat)) rfl (by omega) fun j x hx hj => ⟨_, rfl, .val, by decide, by dsimp! [up_nil]⟩]
        dsimp! [up_nil]
        exact ⟨ws ++ [(it rows0 i).map fun g => i], _, by rw [List.map_append, List.map_singleton, List.map_map]; rfl, by rw [List.length_append, wl]; rfl, push _ fun g hg => by omega⟩
  · rintro G ⟨ws, t8, rfl, wl, hw⟩
    dsimp! [up_nil]
    simp only [Sat, fin]
    exact ⟨ws, marks0, rfl, ⟨L, by omega, fun r hr => by rw [wl]; exact hw r hr, by rw [M0.mkl, l0, wl]⟩, by omega⟩
/-! labels of a memory -/
theorem cut_tail {t : List Nat} {z : Nat} (hz : 1 ≤ z) : (cutD t (some (-(z : Int))) none).length ≤ z ∧ ∀ c ∈ cutD t (some (-(z : Int))) none, c ∈ t := by
  unfold cutD
  refine ⟨?_, fun c hc => List.mem_of_mem_drop (List.mem_of_mem_take hc)⟩
  have e : HT.sIx t.length 0 (some (-(z : Int))) = (-(z : Int) + (t.length : Int)).toNat := by
    show (if -(z : Int) < 0 then _ else _) = _
    rw [if_pos (by omega)]
  rw [e, List.length_take, List.length_drop]
  omega
structure LbI (s : List Nat) (z : Nat) (l : List (List Nat × Nat)) : Prop where
  nd : (l.map (·.1)).Nodup
  val : ∀ p ∈ l, p.2 < l.length
  wd : ∀ p ∈ l, Ov s p.1 ∧ p.1.length ≤ z
theorem LbI.le {s : List Nat} {z : Nat} {l : List (List Nat × Nat)} (L : Ltrs s) (I : LbI s z l) (h : geo s.length (z + 1) ≤ 7) : l.length ≤ 7 := by
  have s0 := L.pos
  have key : ∀ p ∈ l, 0 ≤ bij s p.1 ∧ bij s p.1 < 7 := fun p hp => by
    obtain ⟨h1, h2⟩ := I.wd p hp
    have h3 := (bij_rng L h1).2
    have h4 := geo_le (n := s.length) (by omega) (show p.1.length + 1 ≤ z + 1 by omega)
    exact ⟨bij_nn L h1, by omega⟩
  have nd : (l.map fun p => (bij s p.1).toNat).Nodup := by
    have := I.nd
    unfold List.Nodup at this ⊢
    rw [List.pairwise_map] at this ⊢
    refine List.Pairwise.imp_of_mem (fun {a b} ha hb h => fun e => h ?_) this
    have h1 := key a ha
    have h2 := key b hb
    exact bij_inj L (I.wd a ha).1 (I.wd b hb).1 (by omega)
  have := nodupLe 7 _ nd fun x hx => by
    obtain ⟨p, hp, rfl⟩ := List.mem_map.mp hx
    have := key p hp
    omega
  rwa [List.length_map] at this
theorem LbI.put {s : List Nat} {z : Nat} {l : List (List Nat × Nat)} {t : List Nat} (I : LbI s z l) (h : t ∉ l.map (·.1)) (h1 : Ov s t) (h2 : t.length ≤ z) : LbI s z (l ++ [(t, l.length)]) := by
  refine ⟨?_, fun p hp => ?_, fun p hp => ?_⟩
  · rw [List.map_append, List.map_singleton]
    refine List.nodup_append.mpr ⟨I.nd, by simp, fun a ha b hb e => ?_⟩
    exact h (by rw [← show b = t from List.mem_singleton.mp hb, ← e]; exact ha)
  · rw [List.length_append, List.length_singleton]
    rcases List.mem_append.mp hp with q | q
    · have := I.val p q; omega
    · rw [List.mem_singleton.mp q]; exact Nat.lt_succ_self _
  · rcases List.mem_append.mp hp with q | q
    · exact I.wd p q
    · rw [List.mem_singleton.mp q]; exact ⟨h1, h2⟩
theorem lbI_one {s : List Nat} {z : Nat} : LbI s z [([], 0)] := by
  refine ⟨by simp, fun p hp => ?_, fun p hp => ?_⟩
  · rw [List.mem_singleton.mp hp]; exact Nat.zero_lt_one
  · rw [List.mem_singleton.mp hp]; exact ⟨fun c hc => (by cases hc), Nat.zero_le _⟩
theorem sizes_ok {s : List Nat} (L : Ltrs s) : ∃ q : Nat, ixD (.lst [.int 6, .int 2, .int 1]) (.int ((s.length - 1 : Nat) : Int)) = .ok (.int (q : Nat)) ∧ 0 < q ∧ ∀ z < q, geo s.length (1 + z + 1) ≤ 7 := by
  have := L.pos
  have := L.le
  have q : s.length = 1 ∨ s.length = 2 ∨ s.length = 3 := by omega
  rcases q with q | q | q <;> rw [q]
  · exact ⟨6, rfl, by decide, by decide⟩
  · exact ⟨2, rfl, by decide, by decide⟩
  · exact ⟨1, rfl, by decide, by decide⟩
theorem memory_ok (ns : List Int) {s : List Nat} (L : Ltrs s) : ∃ rows marks, m_law_memory [.lst (ns.map .int), .str s] = .ok (false, mD s rows marks) ∧ Mach s rows marks ∧ rows.length ≤ 8 := by
  refine mk_sat (R := fun z => ∃ rows marks, z = .ok (false, mD s rows marks) ∧ Mach s rows marks ∧ rows.length ≤ 8) rfl ?_
  unfold i_law_memory
  have sl := L.le
  have s0 := L.pos
  have c3 : m_law_cell_at [.lst (ns.map .int), .int 3] = .ok (false, .int (ns.getD 3 0)) := cell_at_ok ns 3
  generalize ns.getD 3 0 = z at c3
  obtain ⟨q, xq, q0, hq⟩ := sizes_ok L
  obtain ⟨k1, ek1, hk1⟩ := mod_ix q0 z
  have d1 : binD .mod (.int z) (.int (q : Nat)) = .ok (.val, .int k1) := by rw [b_mod (by omega), ek1]
  have hz := hq k1 hk1
  obtain ⟨m, em⟩ : ∃ m, 1 + k1 = m := ⟨_, rfl⟩
  rw [em] at hz
  have d0 : dct1O (Fl.val, RA.D.str []) (Fl.val, RA.D.int 0) = .ok (.own, .dct (kv RA.D.str (dN [([], 0)]))) := by rw [kv_one keyS]; rfl
  dsimp! [c3, xq, d1, em]
  simp only [d0]
  dsimp! [up_nil]
  refine whl_at (fun G0 v G => ∃ (l : List (List Nat × Nat)) (rows : List (List Nat)) (t8 t9 : Option (Bool × RA.D)), G = up G0 [(3, some (true, .dct (kv RA.D.str (dN l)))), (4, some (true, .lst (l.map fun p => RA.D.str p.1))), (5, some (true, .lst (rows.map (fun r : List Nat => RA.D.tup (r.map (fun (n : Nat) => RA.D.int n)))))), (6, some (false, .int (rows.length : Nat))), (7, none), (8, t8), (9, t9)] ∧ LbI s m l ∧ (∀ r ∈ rows, r.length = s.length ∧ ∀ g ∈ r, g < l.length) ∧ rows.length ≤ l.length ∧ 0 < l.length ∧ v + rows.length = 7) 7 (by omega) ⟨[([], 0)], [], none, none, rfl, lbI_one, (fun r hr => by cases hr), Nat.zero_le _, by decide, rfl⟩ ?_
  rintro v G ⟨l, rows, t8, t9, rfl, I, hr, hl, l0, hv⟩
  have l7 := I.le L hz
  by_cases hc : rows.length < l.length
  · refine .inr ⟨by dsimp! [hc], ?_⟩
    dsimp! [up_nil]
    refine for_map (fun G0 j G => ∃ (l' : List (List Nat × Nat)) (row : List Nat) (t8 t9 : Option (Bool × RA.D)), G = up G0 [(3, some (true, .dct (kv RA.D.str (dN l')))), (4, some (true, .lst (l'.map fun p => RA.D.str p.1))), (7, some (true, .lst (row.map (fun (n : Nat) => RA.D.int n)))), (8, t8), (9, t9)] ∧ LbI s m l' ∧ l.length ≤ l'.length ∧ row.length = j ∧ ∀ g ∈ row, g < l'.length) ⟨l, [], t8, t9, rfl, I, Nat.le_refl _, rfl, fun g h => by cases h⟩ ?_ ?_
    · rintro j x G hx hj ⟨l', row, t8, t9, rfl, I, hll, rl, hrow⟩
      refine ⟨_, rfl, ?_⟩
      have l7 := I.le L hz
      have hlt : rows.length < l'.length := by omega
      obtain ⟨w1, w2⟩ := I.wd _ (it_mem hlt)
      have xs : x ∈ s := List.mem_of_getElem? hx
      have x1 : ixD (.lst (l'.map fun p => RA.D.str p.1)) (.int (rows.length : Nat)) = .ok (.str (it l' rows.length).1) := ixl (f := fun p : List Nat × Nat => RA.D.str p.1) hlt
      generalize (it l' rows.length).1 = u at x1 w1 w2
      have m7 : m ≤ 100 := by
        have : k1 < q := hk1
        have h6 : q ≤ 6 := by
          have := L.pos
          have q3 : s.length = 1 ∨ s.length = 2 ∨ s.length = 3 := by omega
          rcases q3 with z | z | z <;> rw [z] at xq
          · have e := Rs.ok.inj (show Rs.ok (RA.D.int 6) = Rs.ok (RA.D.int (q : Nat)) from xq); injection e with e; omega
          · have e := Rs.ok.inj (show Rs.ok (RA.D.int 2) = Rs.ok (RA.D.int (q : Nat)) from xq); injection e with e; omega
          · have e := Rs.ok.inj (show Rs.ok (RA.D.int 1) = Rs.ok (RA.D.int (q : Nat)) from xq); injection e with e; omega
        omega
      obtain ⟨y1, y2⟩ := cut_tail (t := u ++ [x]) (z := m) (by omega)
      have y3 : Ov s (cutD (u ++ [x]) (some (-(m : Int))) none) := fun c hc => by
        rcases List.mem_append.mp (y2 c hc) with q | q
        · exact w1 c q
        · rw [List.mem_singleton.mp q]; exact xs
      generalize ht : cutD (u ++ [x]) (some (-(m : Int))) none = t at y1 y3
      have g1 := kv_nmem keyS (l := dN l') (a := t)
      rw [dN_fst] at g1
      by_cases h : t ∈ l'.map (·.1)
      · obtain ⟨p, hp, ep⟩ := List.mem_map.mp h
        have g2 : ixD (.dct (kv RA.D.str (dN l'))) (.str t) = .ok (.int (p.2 : Nat)) := kv_ix keyS (dN_lk I.nd (by rw [← ep]; exact hp))
        dsimp! [x1, ht, g1, h, g2]
        refine ⟨l', row ++ [p.2], _, _, by rw [List.map_append]; rfl, I, hll, by rw [List.length_append, rl]; rfl, fun g hg => ?_⟩
        rcases List.mem_append.mp hg with q | q
        · exact hrow g q
        · rw [List.mem_singleton.mp q]; exact I.val p hp
      · have I2 := I.put h y3 y1
        have dl : (dN l').length < sizeLine := line_lt (by rw [dN_len]; omega)
        have g2 : ixD (.dct (kv RA.D.str (dN (l' ++ [(t, l'.length)])))) (.str t) = .ok (.int (l'.length : Nat)) := kv_ix keyS (dN_lk I2.nd (List.mem_append_right _ (List.mem_singleton.mpr rfl)))
        have ea : dN l' ++ [(t, RA.D.int (l'.length : Nat))] = dN (l' ++ [(t, l'.length)]) := by rw [dN_app]; rfl
        have g3 : ∀ G, putO G 3 (.ok (.val, .int (l'.length : Nat))) (.ok (.val, .str t)) (some (some (true, .dct (kv RA.D.str (dN l'))))) = .nx (G.set 3 (some (true, .dct (kv RA.D.str (dN (l' ++ [(t, l'.length)])))))) := fun G => by
          rw [kv_putO keyS dl (by rw [dN_fst]; exact h), if_neg (by decide), ea]
        dsimp! [x1, ht, g1, h, g2, g3]
        refine ⟨l' ++ [(t, l'.length)], row ++ [l'.length], _, _, by rw [List.map_append, List.map_append]; rfl, I2, by rw [List.length_append]; omega, by rw [List.length_append, rl]; rfl, fun g hg => ?_⟩
        rw [List.length_append, List.length_singleton]
        rcases List.mem_append.mp hg with q | q
        · have := hrow g q; omega
        · rw [List.mem_singleton.mp q]; exact Nat.lt_succ_self _
    · rintro G ⟨l', row, t8, t9, rfl, I, hll, rl, hrow⟩
      dsimp! [up_nil]
      refine ⟨v - 1, by omega, l', rows ++ [row], _, _, by rw [List.map_append, List.length_append]; rfl, I, fun r hm => ?_, by rw [List.length_append, List.length_singleton]; omega, by omega, by rw [List.length_append, List.length_singleton]; omega⟩
      rcases List.mem_append.mp hm with q | q
      · exact ⟨(hr r q).1, fun g hg => Nat.lt_of_lt_of_le ((hr r q).2 g hg) hll⟩
      · rw [List.mem_singleton.mp q]; exact ⟨rl, hrow⟩
  · refine .inl ⟨by dsimp! [hc], ?_⟩
    have e : rows.length = l.length := by omega
    obtain ⟨marks, h1, h2⟩ := marks_ok ns (n := rows.length) (by omega)
    dsimp! [h1]
    simp only [Sat, fin]
    exact ⟨rows, marks, rfl, ⟨L, by omega, fun r hm => by rw [e]; exact hr r hm, h2⟩, by omega⟩
/-! lots -/
theorem b_orK {a b : Nat} : binD .bor (.int (a : Nat)) (.int (b : Nat)) = .ok (.val, .int ((a ||| b : Nat) : Int)) := by
  show Rs.ok (Fl.val, RA.D.int (Builtin.bitOr _ _)) = _
  rw [bitOr_nn (by omega) (by omega), Int.toNat_natCast, Int.toNat_natCast]
theorem lots_ok (ns : List Int) {s : List Nat} (L : Ltrs s) : ∃ rows marks, m_law_lots [.lst (ns.map .int), .str s] = .ok (false, mD s rows marks) ∧ Mach s rows marks ∧ rows.length ≤ 8 := by
  refine mk_sat (R := fun z => ∃ rows marks, z = .ok (false, mD s rows marks) ∧ Mach s rows marks ∧ rows.length ≤ 8) rfl ?_
  unfold i_law_lots
  have sl := L.le
  have s0 := L.pos
  obtain ⟨n, bl, x1, x2, hb, n1, n8, hbl⟩ : ∃ (n : Nat) (bl : List Nat), ixD (.lst [.int 2, .int 4, .int 8]) (.int ((s.length - 1 : Nat) : Int)) = .ok (.int (n : Nat)) ∧ cutD [RA.D.int 1, .int 2, .int 4] none (some (s.length : Int)) = bl.map (fun (n : Nat) => RA.D.int n) ∧ bl.length = s.length ∧ 1 ≤ n ∧ n ≤ 8 ∧ ∀ r < n, ∀ b ∈ bl, r ||| b < n := by
    have q : s.length = 1 ∨ s.length = 2 ∨ s.length = 3 := by omega
    rcases q with q | q | q <;> rw [q]
    · exact ⟨2, [1], rfl, rfl, rfl, by decide, by decide, by decide⟩
    · exact ⟨4, [1, 2], rfl, rfl, rfl, by decide, by decide, by decide⟩
    · exact ⟨8, [1, 2, 4], rfl, rfl, rfl, by decide, by decide, by decide⟩
  dsimp! [x1]
  refine for_rng (fun G0 i G => ∃ (ws : List (List Nat)) (t3 : Option (Bool × RA.D)), G = up G0 [(2, some (true, .lst (ws.map (fun r : List Nat => RA.D.tup (r.map (fun (n : Nat) => RA.D.int n)))))), (3, t3), (4, none)] ∧ ws.length = i ∧ ∀ r ∈ ws, r.length = s.length ∧ ∀ g ∈ r, g < n) ⟨[], none, rfl, rfl, fun r h => by cases h⟩ ?_ ?_
  · rintro i G hi ⟨ws, t3, rfl, wl, hw⟩
    refine ⟨_, rfl, ?_⟩
    dsimp! [x2]
    rw [comp_of (xs := bl) (fun b => .int ((i ||| b : Nat) : Int)) rfl (by omega) fun j x hx hj => ⟨_, rfl, .val, by decide, by dsimp! [b_orK]⟩]
    dsimp! [up_nil]
    refine ⟨ws ++ [bl.map fun b => i ||| b], _, by rw [List.map_append, List.map_singleton, List.map_map]; rfl, by rw [List.length_append, wl]; rfl, fun r hr => ?_⟩
    rcases List.mem_append.mp hr with q | q
    · exact hw r q
    · rw [List.mem_singleton.mp q]
      refine ⟨by rw [List.length_map, hb], fun g hg => ?_⟩
      obtain ⟨b, h1, rfl⟩ := List.mem_map.mp hg
      exact hbl i hi b h1
  · rintro G ⟨ws, t3, rfl, wl, hw⟩
    obtain ⟨marks, h1, h2⟩ := marks_ok ns (n := n) (by omega)
    rw [← wl] at h1
    dsimp! [h1]
    simp only [Sat, fin]
    exact ⟨ws, marks, rfl, ⟨L, by omega, fun r hr => by rw [wl]; exact hw r hr, by rw [h2, wl]⟩, by omega⟩
/-! tallies -/
theorem ctu_maps {F : FT} {a b : Fl} {l m : List Nat} (h : l.length + m.length ≤ 16777216) : xtD F .ctu [(a, .tup (l.map (fun (n : Nat) => RA.D.int n))), (b, .tup (m.map (fun (n : Nat) => RA.D.int n)))] = .ok (.val, .tup ((l ++ m).map (fun (n : Nat) => RA.D.int n))) := by
  show (if (l.map (fun (n : Nat) => RA.D.int n)).length + (m.map (fun (n : Nat) => RA.D.int n)).length ≤ 16777216 then Rs.ok (Fl.val, RA.D.tup (l.map (fun (n : Nat) => RA.D.int n) ++ m.map (fun (n : Nat) => RA.D.int n))) else .no) = _
  rw [if_pos (by rw [List.length_map, List.length_map]; exact h), List.map_append]
theorem slT {l : List RA.D} {lo hi : Option Int} (h : ¬ (HT.sIx l.length 0 lo = 0 ∧ HT.sIx l.length l.length hi = l.length)) : slD (.tup l) lo hi = .ok (.val, .tup (cutD l lo hi)) := if_neg h
theorem slT_to {l : List Nat} {k : Nat} (h : k < l.length) : slD (.tup (l.map (fun (n : Nat) => RA.D.int n))) none (some (k : Int)) = .ok (.val, .tup ((l.take k).map (fun (n : Nat) => RA.D.int n))) := by
  rw [slT (by rw [List.length_map, HT.sIx_nat]; omega), cut_to, List.map_take]
theorem slT_from {l : List Nat} {k : Nat} (h : 0 < k) (h2 : 0 < l.length) : slD (.tup (l.map (fun (n : Nat) => RA.D.int n))) (some (k : Int)) none = .ok (.val, .tup ((l.drop k).map (fun (n : Nat) => RA.D.int n))) := by
  rw [slT (by rw [List.length_map, HT.sIx_nat]; omega), cut_from, List.map_drop]
theorem toPs_map {α : Type} {f : α → RA.D} : ∀ {l : List α}, toPs (l.map f) = l.map fun a => toP (f a)
  | [] => rfl
  | x :: l => by rw [List.map_cons, List.map_cons, toPs, toPs_map]
theorem lix_row {T : List (List Nat)} {t : List Nat} (h : t ∈ T) : lixD (T.map (fun r : List Nat => RA.D.tup (r.map (fun (n : Nat) => RA.D.int n)))) ((fun r : List Nat => RA.D.tup (r.map (fun (n : Nat) => RA.D.int n))) t) = .ok (.val, .int (T.idxOf t : Nat)) := by
  have hl := List.idxOf_lt_length_iff.mpr h
  have h0 : flatD ((fun r : List Nat => RA.D.tup (r.map (fun (n : Nat) => RA.D.int n))) t) = false := rfl
  have d1 := dep_map (f := (fun r : List Nat => RA.D.tup (r.map (fun (n : Nat) => RA.D.int n)))) (fun a => (lay_ROW a).2) (l := T)
  have y1 := lay_map (f := (fun r : List Nat => RA.D.tup (r.map (fun (n : Nat) => RA.D.int n)))) (fun a => (lay_ROW a).1) (l := T)
  have h1 : SeqAt.shaped (toP (.lst (T.map (fun r : List Nat => RA.D.tup (r.map (fun (n : Nat) => RA.D.int n)))))) = true := by
    unfold SeqAt.shaped
    simp only [toP, PyData.canLay0, PyData.depth, y1, Bool.true_and, decide_eq_true_eq]
    omega
  have h2 : SeqAt.shaped (toP ((fun r : List Nat => RA.D.tup (r.map (fun (n : Nat) => RA.D.int n))) t)) = true := by
    have := (lay_ROW t).2
    unfold SeqAt.shaped
    rw [(lay_ROW t).1, Bool.true_and, decide_eq_true_eq]
    omega
  have h3 : (toPs (T.map (fun r : List Nat => RA.D.tup (r.map (fun (n : Nat) => RA.D.int n))))).findIdx? (fun y => PyData.eqv y (toP ((fun r : List Nat => RA.D.tup (r.map (fun (n : Nat) => RA.D.int n))) t))) = some (T.idxOf t) := by
    rw [toPs_map]
    refine List.findIdx?_eq_some_iff_getElem.mpr ⟨by rw [List.length_map]; exact hl, ?_, fun j hj => ?_⟩
    · rw [List.getElem_map, List.getElem_idxOf, eqv_ROW, decide_eq_true rfl]
    · rw [List.getElem_map, eqv_ROW]
      intro z
      have z' := of_decide_eq_true z
      have := List.not_of_lt_findIdx (p := (· == t)) (xs := T) (i := j) hj
      rw [z'] at this
      simp at this
  unfold lixD
  rw [h0, Bool.false_and, if_neg Bool.false_ne_true, h1, h2, h3]; rfl
theorem cat_lst {F : FT} {a b : Fl} {l m : List RA.D} (h : l.length + m.length ≤ 16777216) : xtD F .cat [(a, .lst l), (b, .lst m)] = .ok (.own, .lst (l ++ m)) := if_pos h
/-- tuples with one place more -/
def ext1 (z : Nat) (T : List (List Nat)) : List (List Nat) := T.flatMap fun t => (List.range z).map fun y => t ++ [y]
theorem ext1_len (z : Nat) : ∀ T : List (List Nat), (ext1 z T).length = T.length * z
  | [] => by simp [ext1]
  | t :: T => by
    have := ext1_len z T
    unfold ext1 at this ⊢
    rw [List.flatMap_cons, List.length_append, this, List.length_map, List.length_range, List.length_cons, Nat.succ_mul]; omega
theorem ext1_mem {z : Nat} {T : List (List Nat)} {u : List Nat} : u ∈ ext1 z T ↔ ∃ t ∈ T, ∃ y, y < z ∧ u = t ++ [y] := by
  unfold ext1
  rw [List.mem_flatMap]
  constructor
  · rintro ⟨t, ht, h⟩
    obtain ⟨y, hy, rfl⟩ := List.mem_map.mp h
    exact ⟨t, ht, y, List.mem_range.mp hy, rfl⟩
  · rintro ⟨t, ht, y, hy, rfl⟩
    exact ⟨t, ht, List.mem_map.mpr ⟨y, List.mem_range.mpr hy, rfl⟩⟩
structure TalI (zs : List (Nat × Nat)) (T : List (List Nat)) (left : Nat) : Prop where
  pos : 1 ≤ left
  ne : 0 < T.length
  le : T.length * left ≤ 8
  low : ∀ p ∈ zs, p.1 < p.2
  mem : ∀ t, t ∈ T ↔ t.length = zs.length ∧ ∀ i < zs.length, nth t i < (it zs i).2
theorem TalI.le8 {zs : List (Nat × Nat)} {T : List (List Nat)} {left : Nat} (I : TalI zs T left) : T.length ≤ 8 ∧ left ≤ 8 := by
  have h1 := Nat.mul_le_mul_left T.length I.pos
  have h2 := Nat.mul_le_mul_right left (show 1 ≤ T.length from I.ne)
  have := I.le
  omega
theorem TalI.step {zs : List (Nat × Nat)} {T : List (List Nat)} {left low z : Nat} (I : TalI zs T left) (h1 : low < z) (h2 : z ≤ left) : TalI (zs ++ [(low, z)]) (ext1 z T) (left / z) := by
  refine ⟨Nat.div_pos h2 (by omega), ?_, ?_, fun p hp => ?_, fun u => ?_⟩
  · rw [ext1_len]; exact Nat.mul_pos I.ne (by omega)
  · rw [ext1_len, Nat.mul_assoc]
    exact Nat.le_trans (Nat.mul_le_mul_left _ (Nat.mul_div_le left z)) I.le
  · rcases List.mem_append.mp hp with q | q
    · exact I.low p q
    · rw [List.mem_singleton.mp q]; exact h1
  · rw [ext1_mem]
    constructor
    · rintro ⟨t, ht, y, hy, rfl⟩
      obtain ⟨e, h⟩ := (I.mem t).mp ht
      refine ⟨by rw [List.length_append, List.length_append, e]; rfl, fun i hi => ?_⟩
      rw [List.length_append, List.length_singleton] at hi
      by_cases q : i < zs.length
      · rw [nth_app (by omega), it_app q]; exact h i q
      · have : i = zs.length := by omega
        subst this
        rw [it_at, ← e, nth_at]; exact hy
    · rintro ⟨e, h⟩
      rw [List.length_append, List.length_singleton] at e h
      have ne : u ≠ [] := fun q => by rw [q] at e; cases e
      obtain ⟨t, y, rfl⟩ : ∃ t y, u = t ++ [y] := ⟨u.dropLast, u.getLast ne, (List.dropLast_concat_getLast ne).symm⟩
      rw [List.length_append, List.length_singleton] at e
      have e : t.length = zs.length := by omega
      refine ⟨t, (I.mem t).mpr ⟨e, fun i hi => ?_⟩, y, ?_, rfl⟩
      · have := h i (by omega)
        rwa [nth_app (by omega), it_app hi] at this
      · have := h zs.length (by omega)
        rwa [it_at, ← e, nth_at] at this
theorem TalI.put {zs : List (Nat × Nat)} {T : List (List Nat)} {left k y : Nat} {t : List Nat} (I : TalI zs T left) (ht : t ∈ T) (hk : k < zs.length) (hy : y < (it zs k).2) : t.set k y ∈ T := by
  obtain ⟨e, h⟩ := (I.mem t).mp ht
  refine (I.mem _).mpr ⟨by rw [List.length_set, e], fun i hi => ?_⟩
  by_cases q : i = k
  · subst q
    rw [nth_of (List.getElem?_set_self (by omega))]; exact hy
  · have : nth (t.set k y) i = nth t i := nth_of (by rw [List.getElem?_set_ne (fun z => q z.symm)]; exact nth_get (by omega))
    rw [this]; exact h i hi
theorem set_cut {t : List Nat} {k y : Nat} (h : k < t.length) : t.take k ++ [y] ++ t.drop (k + 1) = t.set k y := by
  rw [List.set_eq_take_append_cons_drop, if_pos h, List.append_assoc]; rfl
theorem tallied_ok (ns : List Int) {s : List Nat} (L : Ltrs s) : ∃ rows marks, m_law_tallied [.lst (ns.map .int), .str s] = .ok (false, mD s rows marks) ∧ Mach s rows marks ∧ rows.length ≤ 8 := by
  refine mk_sat (R := fun z => ∃ rows marks, z = .ok (false, mD s rows marks) ∧ Mach s rows marks ∧ rows.length ≤ 8) rfl ?_
  unfold i_law_tallied
  have sl := L.le
  have s0 := L.pos
  have c3 : m_law_cell_at [.lst (ns.map .int), .int 3] = .ok (false, .int (ns.getD 3 0)) := cell_at_ok ns 3
  generalize ns.getD 3 0 = z at c3
  have g2 : binD .pow (.int 10) (.int 9) = .ok (.val, .int (10 ^ 9)) := rfl
  obtain ⟨x0, ex0, _⟩ := mod_ix (show 0 < 10 ^ 9 by decide) z
  have g3 : binD .mod (.int z) (.int (10 ^ 9)) = .ok (.val, .int (x0 : Nat)) := by
    rw [b_mod (by decide)]
    rw [← ex0]; rfl
  dsimp! [c3, g2, g3]
  refine for_map (fun G0 j G => ∃ (x left : Nat) (zs : List (Nat × Nat)) (T : List (List Nat)) (t6 t8 t9 t10 t11 : Option (Bool × RA.D)), G = up G0 [(2, some (false, .int (x : Nat))), (3, some (false, .int (left : Nat))), (4, some (true, .lst (zs.map PE2))), (5, some (false, .lst (T.map fun t => .tup (t.map (fun (n : Nat) => RA.D.int n))))), (6, t6), (8, t8), (9, t9), (10, t10), (11, t11), (14, none)] ∧ zs.length = j ∧ TalI zs T left) ⟨x0, 8, [], [[]], none, none, none, none, none, rfl, rfl, ⟨by decide, by decide, by decide, (fun p hp => by cases hp), fun t => ?_⟩⟩ ?_ ?_
  · constructor
    · intro h; rw [List.mem_singleton.mp h]; exact ⟨rfl, fun i hi => absurd hi (Nat.not_lt_zero _)⟩
    · rintro ⟨e, _⟩
      rw [List.length_eq_zero_iff.mp e]; exact List.mem_singleton.mpr rfl
  · rintro j c G hc hj ⟨x, left, zs, T, t6, t8, t9, t10, t11, rfl, zl, I⟩
    refine ⟨_, rfl, ?_⟩
    obtain ⟨T8, L8⟩ := I.le8
    have l1 := I.pos
    have m1 := Nat.mod_lt x (show 0 < left by omega)
    obtain ⟨w, ew⟩ : ∃ w, 1 + x % left = w := ⟨_, rfl⟩
    have w1 : 1 ≤ w := by omega
    have w2 : w ≤ left := by omega
    have low := Nat.mod_lt (x / 8) (show 0 < w by omega)
    have I2 := I.step low w2
    have Z8 := I2.le8.1
    rw [ext1_len] at Z8
    dsimp! [ew]
    refine for_map (fun G0 i G => ∃ (t8 : Option (Bool × RA.D)), G = up G0 [(8, t8), (11, some (false, .lst ((ext1 w (T.take i)).map fun t => .tup (t.map (fun (n : Nat) => RA.D.int n))))), (14, none)]) ⟨t8, rfl⟩ ?_ ?_
    · rintro i t G ht hi ⟨t8, rfl⟩
      refine ⟨_, rfl, ?_⟩
      have tl : t.length = zs.length := ((I.mem t).mp (List.mem_of_getElem? ht)).1
      have e1 : ext1 w (T.take (i + 1)) = ext1 w (T.take i) ++ (List.range w).map fun y => t ++ [y] := by
        rw [take_snoc ht]
        unfold ext1
        rw [List.flatMap_append, List.flatMap_singleton]
      have el : (ext1 w (T.take i)).length ≤ 8 := by
        rw [ext1_len, List.length_take]
        exact Nat.le_trans (Nat.mul_le_mul_right w (Nat.min_le_right _ _)) Z8
      dsimp! [rng_map]
      rw [comp_of (xs := List.range w) (fun y => .tup ((t ++ [y]).map (fun (n : Nat) => RA.D.int n))) rfl (by rw [List.length_range]; omega) fun j x hx hj => ⟨_, rfl, .val, by decide, by
        have c1 : ∀ F, xtD F .ctu [(.val, .tup (t.map (fun (n : Nat) => RA.D.int n))), (.val, .tup [.int (x : Nat)])] = .ok (.val, .tup ((t ++ [x]).map (fun (n : Nat) => RA.D.int n))) := fun F => ctu_maps (m := [x]) (by rw [List.length_singleton]; omega)
        dsimp! [c1]⟩]
      have cc : ∀ F, xtD F .cat [(.val, .lst ((ext1 w (T.take i)).map fun t => .tup (t.map (fun (n : Nat) => RA.D.int n)))), (.own, .lst ((List.range w).map fun y => .tup ((t ++ [y]).map (fun (n : Nat) => RA.D.int n))))] = .ok (.own, .lst ((ext1 w (T.take (i + 1))).map fun t => .tup (t.map (fun (n : Nat) => RA.D.int n)))) := fun F => by
        rw [cat_lst (by rw [List.length_map, List.length_map, List.length_range]; omega), e1, List.map_append, List.map_map]; rfl
      dsimp! [cc]
      exact ⟨_, rfl⟩
    · rintro G ⟨t8, rfl⟩
      rw [List.take_length]
      dsimp! [up_nil]
      exact ⟨x / 64, left / w, zs ++ [(x / 8 % w, w)], ext1 w T, _, _, _, _, _, by rw [List.map_append]; rfl, by rw [List.length_append, zl]; rfl, I2⟩
  · rintro G ⟨x, left, zs, T, t6, t8, t9, t10, t11, rfl, zl, I⟩
    obtain ⟨T8, L8⟩ := I.le8
    dsimp! [up_nil]
    refine for_map (fun G0 i G => ∃ (ws : List (List Nat)) (t8 t13 t14 : Option (Bool × RA.D)), G = up G0 [(7, some (true, .lst (ws.map (fun r : List Nat => RA.D.tup (r.map (fun (n : Nat) => RA.D.int n)))))), (8, t8), (12, none), (13, t13), (14, t14)] ∧ ws.length = i ∧ ∀ r ∈ ws, r.length = s.length ∧ ∀ g ∈ r, g < T.length) ⟨[], t8, none, none, rfl, rfl, fun r h => by cases h⟩ ?_ ?_
    · rintro i t G ht hi ⟨ws, t8, t13, t14, rfl, wl, hw⟩
      refine ⟨_, rfl, ?_⟩
      have tm := List.mem_of_getElem? ht
      obtain ⟨tl, tz⟩ := (I.mem t).mp tm
      dsimp! [up_nil]
      refine for_rng (fun G0 k G => ∃ (row : List Nat) (t13 t14 : Option (Bool × RA.D)), G = up G0 [(12, some (true, .lst (row.map (fun (n : Nat) => RA.D.int n)))), (13, t13), (14, t14)] ∧ row.length = k ∧ ∀ g ∈ row, g < T.length) ⟨[], t13, t14, rfl, rfl, fun r h => by cases h⟩ ?_ ?_
      · rintro k G hk ⟨row, t13, t14, rfl, rl, hr⟩
        refine ⟨_, rfl, ?_⟩
        have hkz : k < zs.length := by omega
        have x1 : ixD (.lst (zs.map PE2)) (.int (k : Nat)) = .ok (PE2 (it zs k)) := ixl (f := PE2) hkz
        have lw := I.low _ (it_mem hkz)
        have tk := tz k hkz
        have put : ∀ y, y < (it zs k).2 → t.set k y ∈ T := fun y hy => I.put tm hkz hy
        generalize it zs k = p at x1 lw tk put
        obtain ⟨p1, p2⟩ := p
        have x2 : ixD (.tup (t.map (fun (n : Nat) => RA.D.int n))) (.int (k : Nat)) = .ok (.int (nth t k : Nat)) := ixt (f := (fun (n : Nat) => RA.D.int n)) (by omega)
        have s1 := slT_to (l := t) (k := k) (by omega)
        have s2 := slT_from (l := t) (k := k + 1) (by omega) (by omega)
        have c1 : ∀ (F : FT) (y : Nat), xtD F .ctu [(.val, .tup ((t.take k).map (fun (n : Nat) => RA.D.int n))), (.val, .tup [.int (y : Nat)])] = .ok (.val, .tup ((t.take k ++ [y]).map (fun (n : Nat) => RA.D.int n))) := fun F y => ctu_maps (m := [y]) (by rw [List.length_singleton, List.length_take]; omega)
        have c2 : ∀ (F : FT) (y : Nat), xtD F .ctu [(.val, .tup ((t.take k ++ [y]).map (fun (n : Nat) => RA.D.int n))), (.val, .tup ((t.drop (k + 1)).map (fun (n : Nat) => RA.D.int n)))] = .ok (.val, .tup ((t.set k y).map (fun (n : Nat) => RA.D.int n))) := fun F y => by
          rw [ctu_maps (by rw [List.length_append, List.length_singleton, List.length_take, List.length_drop]; omega), set_cut (by omega)]
        have lx : ∀ y, y < p2 → lixD (T.map fun t => .tup (t.map (fun (n : Nat) => RA.D.int n))) (.tup ((t.set k y).map (fun (n : Nat) => RA.D.int n))) = .ok (.val, .int (T.idxOf (t.set k y) : Nat)) ∧ T.idxOf (t.set k y) < T.length := fun y hy => ⟨lix_row (put y hy), List.idxOf_lt_length_iff.mpr (put y hy)⟩
        have tk : nth t k < p2 := tk
        have lw : p1 < p2 := lw
        by_cases q : nth t k + 1 = p2
        · obtain ⟨l1, l2⟩ := lx p1 lw
          dsimp! [x1, x2, q, s1, s2, c1, c2, e_lix, lixO_ok, l1]
          refine ⟨row ++ [T.idxOf (t.set k p1)], _, _, by rw [List.map_append]; rfl, by rw [List.length_append, rl]; rfl, fun g hg => ?_⟩
          rcases List.mem_append.mp hg with z | z
          · exact hr g z
          · rw [List.mem_singleton.mp z]; exact l2
        · obtain ⟨l1, l2⟩ := lx (nth t k + 1) (by omega)
          dsimp! [x1, x2, q, s1, s2, c1, c2, e_lix, lixO_ok, l1]
          refine ⟨row ++ [T.idxOf (t.set k (nth t k + 1))], _, _, by rw [List.map_append]; rfl, by rw [List.length_append, rl]; rfl, fun g hg => ?_⟩
          rcases List.mem_append.mp hg with z | z
          · exact hr g z
          · rw [List.mem_singleton.mp z]; exact l2
      · rintro G ⟨row, t13, t14, rfl, rl, hr⟩
        dsimp! [up_nil]
        refine ⟨ws ++ [row], _, _, _, by rw [List.map_append]; rfl, by rw [List.length_append, wl]; rfl, fun r hm => ?_⟩
        rcases List.mem_append.mp hm with z | z
        · exact hw r z
        · rw [List.mem_singleton.mp z]; exact ⟨rl, hr⟩
    · rintro G ⟨ws, t8, t13, t14, rfl, wl, hw⟩
      obtain ⟨marks, h1, h2⟩ := marks_ok ns (n := ws.length) (by omega)
      have ne := I.ne
      dsimp! [h1]
      simp only [Sat, fin]
      exact ⟨ws, marks, rfl, ⟨L, by omega, fun r hr => by rw [wl]; exact hw r hr, h2⟩, by omega⟩
theorem built_ok (ns : List Int) {s : List Nat} (L : Ltrs s) {k : Nat} (hk : k < 6) : ∃ rows marks, m_law_built [.lst (ns.map .int), .str s, .int k] = .ok (false, mD s rows marks) ∧ Mach s rows marks ∧ rows.length ≤ 8 := by
  refine mk_sat (R := fun z => ∃ rows marks, z = .ok (false, mD s rows marks) ∧ Mach s rows marks ∧ rows.length ≤ 8) rfl ?_
  unfold i_law_built
  have c3 : m_law_cell_at [.lst (ns.map .int), .int 3] = .ok (false, .int (ns.getD 3 0)) := cell_at_ok ns 3
  have q : k = 0 ∨ k = 1 ∨ k = 2 ∨ k = 3 ∨ k = 4 ∨ k = 5 := by omega
  rcases q with rfl | rfl | rfl | rfl | rfl | rfl
  · obtain ⟨j, ej, hj⟩ := mod_ix (show 0 < 8 by omega) (ns.getD 3 0)
    have d1 : binD .mod (.int (ns.getD 3 0)) (.int 8) = .ok (.val, .int j) := by
      rw [b_mod (by omega)]
      rw [← ej]; rfl
    obtain ⟨rows, marks, h1, h2, h3⟩ := machine_ok ns 4 (n := 1 + j) (by omega) (by omega) L
    have h1 : m_law_machine [.lst (ns.map .int), .int 4, .int ((1 + j : Nat) : Int), .str s] = .ok (false, mD s rows marks) := h1
    dsimp! [c3, d1, h1]
    simp only [Sat, fin]
    exact ⟨rows, marks, rfl, h2, by omega⟩
  · obtain ⟨rows, marks, h1, h2⟩ := forward_ok ns L false
    dsimp! [h1]
    simp only [Sat, fin]
    exact ⟨rows, marks, rfl, h2⟩
  · obtain ⟨rows, marks, h1, h2⟩ := forward_ok ns L true
    dsimp! [h1]
    simp only [Sat, fin]
    exact ⟨rows, marks, rfl, h2⟩
  · obtain ⟨rows, marks, h1, h2⟩ := memory_ok ns L
    dsimp! [h1]
    simp only [Sat, fin]
    exact ⟨rows, marks, rfl, h2⟩
  · obtain ⟨rows, marks, h1, h2⟩ := lots_ok ns L
    dsimp! [h1]
    simp only [Sat, fin]
    exact ⟨rows, marks, rfl, h2⟩
  · obtain ⟨rows, marks, h1, h2⟩ := tallied_ok ns L
    dsimp! [h1]
    simp only [Sat, fin]
    exact ⟨rows, marks, rfl, h2⟩
end RA
/-! W21: roads in machines; powers of words. -/
namespace RA
open PySem PySem.Spec PyProof.Rows L2
/- 316 roads(machine, start); slots: 0=machine 1=start 2=words 3=row 4=at 5=sign 6=goal; calls:  -/
def i_roads : IS := (.seq (.own 2 (.dct (.cons (.v 1) .nil) (.cons (.k (.str [])) .nil))) (.seq (.own 3 (.lst (.cons (.v 1) .nil))) (.seq (.set 4 (.k (.int 0))) (.seq (.whl (.cmp .lt (.v 4) (.bi .len (.cons (.pk 3) .nil))) (.seq (.for_ (.tup [5, 6]) (.zip2 (.ix (.v 0) (.k (.int 0))) (.ix (.ix (.v 0) (.k (.int 1))) (.ix (.pk 3) (.v 4)))) (.seq (.if_ (.cmp .nmem (.v 6) (.pk 2)) (.seq (.put 2 (.v 6) (.b .add (.ix (.pk 2) (.ix (.pk 3) (.v 4))) (.v 5))) (.seq (.app 3 (.v 6)) .nil)) .nil) .nil)) (.seq (.set 4 (.b .add (.v 4) (.k (.int 1)))) .nil))) (.seq (.retp 2) .nil)))))
def f_roads : FT := fun _ _ => .no
def m_roads : List RA.D → Rs (Bool × RA.D) := mk 2 7 f_roads i_roads
/- 317 round_word(machine, room); slots: 0=machine 1=room 2=best 3=sign 4=goal 5=words; calls: 316=roads -/
def f_round_word : FT := fun n ds => match n, ds with | 316, ds => m_roads ds | _, _ => .no
@[simp] theorem f_round_word_316 (ds : List RA.D) : f_round_word 316 ds = m_roads ds := (rfl)
/- 318 stuck(machine, room); slots: 0=machine 1=room 2=goal; calls:  -/
/- 319 toward(machine, room, mark); slots: 0=machine 1=room 2=mark 3=goal 4=word; calls: 316=roads -/
def f_toward : FT := fun n ds => match n, ds with | 316, ds => m_roads ds | _, _ => .no
@[simp] theorem f_toward_316 (ds : List RA.D) : f_toward 316 ds = m_roads ds := (rfl)
local macro_rules | `(tactic| dsimp! [$xs,*]) => `(tactic| simp (disch := first | assumption | omega | (simp only [List.length_map, List.length_append, List.length_cons, List.length_nil, List.length_range, List.length_set]; omega) | decide | rfl) only [tstO_eq, x_seq, x_set, x_own, x_do, x_if, x_for, x_whl, x_ret, x_retN, x_pass, x_brk, x_cnt, x_rse, x_fgt, x_frz, x_retp, x_app, x_aug, x_unp, x_put, e_v, e_pk, e_k, e_gl, e_b, e_neg, e_cmp, e_and, e_or, e_not, e_ife, e_tup, e_lst, e_dct, e_dct1, e_lset, e_ix, e_sl, e_rv, rv_lst, e_out, e_bi, e_me, e_call, es_nil, es_cons, i_ex, i_rng1, i_rng2, i_zip, i_rev, valO_ok, pkO_ok, glO_ok, negO_ok, frzO_ok, retO_ok, augO_add, augO_sub, walkO_lst, walkO_tup, walkO_str, zipO_ok, zipI_ok, revO_ok, asB_ok, items_lst, items_tup, items_str, bindT_one, bindT_tup, setAll_nil, setAll_cons, forget_nil, forget_cons, prt_int, prt_out, isOut, keepOk_nil, keepOk_cons, recv_str, b_add, b_sub, c_lt, c_le, c_gt, c_ge, c_ltS, c_gtS, c_eqI, c_neI, c_eqS, c_neS, c_eqB, c_neB, c_isn, c_isnt, c_memS, c_nmemS, sl_lst, len_lst, len_tup, is_str, is_intI, is_boolI, is_boolB, tuple_lst, list_lst, list_tup, find_one, seqO_nx, seqO_no, seqO_rt, seqO_ex, seqO_bk, seqO_ct, seqO_seqO, seqO_ite, x_nil, sat_nx, sat_rt, sat_ex, sat_thru, sat_thru_ct, sat_nxt, sat_t1, sat_t1c, sat_t1r, sat_t1e, Rs.bind_ok, Rs.bind_ex, Rs.out_ok, Rs.out_ex, List.set_cons_succ, List.set_cons_zero, List.getElem?_cons_succ, List.getElem?_cons_zero, List.map_cons, List.map_nil, List.cons_append, List.nil_append, startG, List.reduceReplicate, List.length_cons, List.length_nil, Nat.reduceAdd, Nat.reduceSub, Nat.zero_add, Nat.add_zero, Nat.zero_le, Nat.reduceLeDiff, List.append_nil, reduceCtorEq, if_true, if_false, ite_true, ite_false, ne_eq, not_false_eq_true, not_true_eq_false, decide_true, decide_false, decide_not, Bool.not_true, Bool.not_false, Bool.and_true, Bool.true_and, Bool.and_self, Bool.false_eq_true, and_self, and_true, true_and, decide_eq_true_eq, Int.reduceEq, Int.cast_ofNat_Int, Int.reduceNe, Int.reduceLT, Int.reduceLE, Int.reduceNeg, Int.reduceAdd, Int.reduceSub, tgSlots, freeAt, List.all_cons, List.all_nil, isNon_non, isNon_str, isNon_int, isNon_bl, isNon_tup, isNon_lst, isNon_opq, fin_nx, fin_rt, fin_ex, e_xt, Bool.true_eq_false, eq_self, isc_non, isc_opq, x_xs, x_try, tryO_nx, tryO_rt, tryO_ex, hdG_as, hdG_cst, List.contains_cons, List.contains_nil, Nat.reduceBEq, beq_self_eq_true, up_nil, up_cons, tn_nx, tn_ct, tn_bk, tn_rt, tn_ex, b_fdiv, b_mod, max_two, min_two, ixl, ixt, ixl_last, ixl_zero, ixt_zero, ixs, ixs_last, ixT0, ixT1, ixT12, ixT22, ixL0, ixL1, ixM0, ixM1, ixM2, lenS, slS, rvS, catS, appL, unp2, unp3, r1, r2, r2one, e_comp2, it_nth, nat1, nat1l, natA, natM, natD, natR, natS, natS1, natE, natL, natLe, natL0, natN0, nat0, max_nats, Bool.not_eq_true', Bool.not_eq_false', List.length_map, List.length_append, List.length_range, Bool.true_or, Bool.false_or, Bool.or_true, Bool.or_false, Bool.and_false, Bool.false_and, Bool.or_self, decide_eq_false_iff_not, Nat.lt_irrefl, Bool.not_eq_eq_eq_not, not_true, not_false_iff, Nat.not_lt_zero, f_round_word_316, f_toward_316, $xs,*])
section
variable {s : List Nat} {rows : List (List Nat)} {marks : List Bool}
/-- words of rooms, as a dict -/
def rD (s : List Nat) (f : List (Nat × List Nat)) : List (Nat × RA.D) := f.map fun p => (p.1, .str (sp s p.2))
theorem rD_fst {f : List (Nat × List Nat)} : (rD s f).map (·.1) = f.map (·.1) := by unfold rD; rw [List.map_map]; rfl
theorem rD_len {f : List (Nat × List Nat)} : (rD s f).length = f.length := List.length_map ..
theorem rD_app {f g : List (Nat × List Nat)} : rD s (f ++ g) = rD s f ++ rD s g := List.map_append
theorem rD_ix {f : List (Nat × List Nat)} (nd : (f.map (·.1)).Nodup) {p : Nat × List Nat} (h : p ∈ f) : ixD (.dct (kv (fun (n : Nat) => RA.D.int n) (rD s f))) (.int (p.1 : Nat)) = .ok (.str (sp s p.2)) :=
  kv_ix keyN (lk_nd2 (by rw [rD_fst]; exact nd) (List.mem_map.mpr ⟨p, h, rfl⟩))
theorem roads_ok (M : Mach s rows marks) (hn : rows.length ≤ 1000) {r : Nat} (hr0 : r < rows.length) : ∃ f, m_roads [mD s rows marks, .int r] = .ok (true, .dct (kv (fun (n : Nat) => RA.D.int n) (rD s f))) ∧ Bfs s.length (go rows) r f f.length 0 ∧ f.length ≤ rows.length := by
  refine mk_sat (R := fun z => ∃ f : List (Nat × List Nat), z = .ok (true, .dct (kv (fun (n : Nat) => RA.D.int n) (rD s f))) ∧ Bfs s.length (go rows) r f f.length 0 ∧ f.length ≤ rows.length) rfl ?_
  unfold i_roads
  have L := M.ltrs
  have sl := L.le
  have R := M.rws
  have C := R.clo
  have d0 : dct1O (Fl.val, RA.D.int (r : Nat)) (Fl.val, RA.D.str []) = .ok (.own, .dct (kv (fun (n : Nat) => RA.D.int n) (rD s [(r, [])]))) := by rw [kv_one keyN]; rfl
  have lt : ∀ {f : List (Nat × List Nat)} {i j : Nat}, Bfs s.length (go rows) r f i j → ∀ p ∈ f, p.1 < rows.length := fun I => I.inv (P := fun a => a < rows.length) hr0 (fun a k h1 h2 => C a h1 k h2)
  have sz : ∀ {f : List (Nat × List Nat)} {i j : Nat}, Bfs s.length (go rows) r f i j → f.length ≤ rows.length := fun I =>
    I.size rows.length id (fun a _ b _ e => e) fun a ha => by
      obtain ⟨p, hp, rfl⟩ := List.mem_map.mp ha
      exact lt I p hp
  dsimp! [up_nil]
  simp only [d0]
  dsimp! [up_nil]
  refine whl_at (fun G0 v G => ∃ (f : List (Nat × List Nat)) (i : Nat) (t5 t6 : Option (Bool × RA.D)), G = up G0 [(2, some (true, .dct (kv (fun (n : Nat) => RA.D.int n) (rD s f)))), (3, some (true, .lst (f.map fun p => RA.D.int p.1))), (4, some (false, .int (i : Nat))), (5, t5), (6, t6)] ∧ Bfs s.length (go rows) r f i 0 ∧ i ≤ f.length ∧ v + i = rows.length) rows.length (by omega) ⟨[(r, [])], 0, none, none, rfl, Bfs.start, Nat.zero_le _, rfl⟩ ?_
  rintro v G ⟨f, i, t5, t6, rfl, I, hi, hv⟩
  have fl := sz I
  by_cases hc : i < f.length
  · refine .inr ⟨by dsimp! [hc], ?_⟩
    have hp := it_get hc
    generalize it f i = p at hp
    obtain ⟨p1, p2⟩ := p
    have ei : it f i = (p1, p2) := it_of hp
    obtain ⟨w1, w2, w3⟩ := I.it _ (List.mem_of_getElem? hp)
    have hr : p1 < rows.length := lt I _ (List.mem_of_getElem? hp)
    obtain ⟨h1, h2⟩ := R.row p1 hr
    have w3 : p2.length < f.length := w3
    have wl : (sp s p2).length = p2.length := sp_len
    have x1 : ixD (.lst (f.map fun p => RA.D.int p.1)) (.int (i : Nat)) = .ok (.int (p1 : Nat)) := by
      have := ixl (f := fun p : Nat × List Nat => RA.D.int p.1) hc
      rw [ei] at this; exact this
    dsimp! [x1, zip_maps]
    refine for_map (fun G0 k G => ∃ (f : List (Nat × List Nat)) (t5 t6 : Option (Bool × RA.D)), G = up G0 [(2, some (true, .dct (kv (fun (n : Nat) => RA.D.int n) (rD s f)))), (3, some (true, .lst (f.map fun p => RA.D.int p.1))), (5, t5), (6, t6)] ∧ Bfs s.length (go rows) r f i k ∧ f[i]? = some (p1, p2)) ⟨f, t5, t6, rfl, I, hp⟩ ?_ ?_
    · rintro k x G hx hk ⟨f, t5, t6, rfl, I, hp⟩
      obtain ⟨x1, x2⟩ := x
      obtain ⟨hx1, hx2⟩ := List.getElem?_zip_eq_some.mp hx
      have hk : k < s.length := (List.getElem?_eq_some_iff.mp hx1).1
      have e2 : go rows p1 k = x2 := nth_of hx2
      have e1 : nth s k = x1 := nth_of hx1
      have fl := sz I
      refine ⟨_, rfl, ?_⟩
      have P := I.put hk hp
      unfold bput at P
      rw [show (go rows (p1, p2).1 k) = x2 from e2] at P
      have g1 := kv_nmem keyN (l := rD s f) (a := x2)
      rw [rD_fst] at g1
      by_cases q : x2 ∈ f.map (·.1)
      · rw [if_pos q] at P
        dsimp! [g1, q]
        exact ⟨f, _, _, rfl, P.1, P.2⟩
      · rw [if_neg q] at P
        have hif : i < f.length := (List.getElem?_eq_some_iff.mp hp).1
        have ei : it f i = (p1, p2) := it_of hp
        have y1 : ixD (.lst (f.map fun p => RA.D.int p.1)) (.int (i : Nat)) = .ok (.int (p1 : Nat)) := by
          have := ixl (f := fun p : Nat × List Nat => RA.D.int p.1) hif
          rw [ei] at this; exact this
        have y2 := rD_ix (s := s) I.nd (List.mem_of_getElem? hp)
        have y2 : ixD (.dct (kv (fun (n : Nat) => RA.D.int n) (rD s f))) (.int (p1 : Nat)) = .ok (.str (sp s p2)) := y2
        have ea : rD s f ++ [(x2, RA.D.str (sp s p2 ++ [x1]))] = rD s (f ++ [(x2, p2 ++ [k])]) := by
          rw [rD_app, ← e1, ← sp_snoc]; rfl
        have g3 : ∀ G, putO G 2 (.ok (.val, .str (sp s p2 ++ [x1]))) (.ok (.val, .int (x2 : Nat))) (some (some (true, .dct (kv (fun (n : Nat) => RA.D.int n) (rD s f))))) = .nx (G.set 2 (some (true, .dct (kv (fun (n : Nat) => RA.D.int n) (rD s (f ++ [(x2, p2 ++ [k])])))))) := fun G => by
          rw [kv_putO keyN (line_lt (by rw [rD_len]; omega)) (by rw [rD_fst]; exact q), if_neg (by decide), ea]
        dsimp! [g1, q, y1, y2, g3]
        exact ⟨f ++ [(x2, p2 ++ [k])], _, _, by rw [List.map_append]; rfl, P.1, P.2⟩
    · rintro G ⟨f, t5, t6, rfl, I, hp⟩
      have el : (s.zip (it rows p1)).length = s.length := by rw [List.length_zip, h1, Nat.min_self]
      rw [el] at I
      have fl := sz I.next
      dsimp! [up_nil]
      exact ⟨v - 1, by omega, f, i + 1, _, _, rfl, I.next, (List.getElem?_eq_some_iff.mp hp).1, by omega⟩
  · refine .inl ⟨by dsimp! [hc], ?_⟩
    have : i = f.length := by omega
    subst this
    dsimp! [up_nil]
    exact ⟨f, rfl, I, sz I⟩
end
end RA
/-! W22: what the laws of kinds share: powers of words, words in order. -/
namespace RA
open PySem PySem.Spec PyProof.Rows L2
/- 324 _law_told(_law_found, _law_yes, _law_no); slots: 0=_law_found 1=_law_yes 2=_law_no; calls:  -/
/- 325 _law_bar_words(_law_words, _law_letters_here); slots: 0=_law_words 1=_law_letters_here 2=_law_word_here; calls: 15=law_is_word -/
def i_law_bar_words : IS := (.seq (.for_ (.one 2) (.ex (.v 0)) (.seq (.if_ (.or_ (.not_ (.call 15 (.cons (.v 2) (.cons (.v 1) .nil)))) (.cmp .gt (.bi .len (.cons (.v 2) .nil)) (.k (.int 60)))) (.seq (.ret (.k (.bl false))) .nil) .nil) .nil)) (.seq (.ret (.k (.bl true))) .nil))
def f_law_bar_words : FT := fun n ds => match n, ds with | 15, ds => m_law_is_word ds | _, _ => .no
@[simp] theorem f_law_bar_words_15 (ds : List RA.D) : f_law_bar_words 15 ds = m_law_is_word ds := (rfl)
def m_law_bar_words : List RA.D → Rs (Bool × RA.D) := mk 2 3 f_law_bar_words i_law_bar_words
/- 326 _law_power(_law_machine_here, _law_word_here, _law_times); slots: 0=_law_machine_here 1=_law_word_here 2=_law_times 3=_law_act 4=_law_found 5=_law_room; calls: 27=law_after -/
def f_law_power : FT := fun n ds => match n, ds with | 27, ds => m_law_after ds | _, _ => .no
@[simp] theorem f_law_power_27 (ds : List RA.D) : f_law_power 27 ds = m_law_after ds := (rfl)
/- 331 _law_in_order(_law_found, _law_letters_here); slots: 0=_law_found 1=_law_letters_here 2=_law_word_here 3=_law_k; calls: 15=law_is_word 32=law_earlier -/
def f_law_in_order_2 : FT := fun n ds => match n, ds with | 15, ds => m_law_is_word ds | 32, ds => m_law_earlier ds | _, _ => .no
@[simp] theorem f_law_in_order_2_15 (ds : List RA.D) : f_law_in_order_2 15 ds = m_law_is_word ds := (rfl)
@[simp] theorem f_law_in_order_2_32 (ds : List RA.D) : f_law_in_order_2 32 ds = m_law_earlier ds := (rfl)
local macro_rules | `(tactic| dsimp! [$xs,*]) => `(tactic| simp (disch := first | assumption | omega | (simp only [List.length_map, List.length_append, List.length_cons, List.length_nil, List.length_range, List.length_set]; omega) | decide | rfl) only [tstO_eq, x_seq, x_set, x_own, x_do, x_if, x_for, x_whl, x_ret, x_retN, x_pass, x_brk, x_cnt, x_rse, x_fgt, x_frz, x_retp, x_app, x_aug, x_unp, x_put, e_v, e_pk, e_k, e_gl, e_b, e_neg, e_cmp, e_and, e_or, e_not, e_ife, e_tup, e_lst, e_dct, e_dct1, e_lset, e_ix, e_sl, e_rv, rv_lst, e_out, e_bi, e_me, e_call, es_nil, es_cons, i_ex, i_rng1, i_rng2, i_zip, i_rev, valO_ok, pkO_ok, glO_ok, negO_ok, frzO_ok, retO_ok, augO_add, augO_sub, walkO_lst, walkO_tup, walkO_str, zipO_ok, zipI_ok, revO_ok, asB_ok, items_lst, items_tup, items_str, bindT_one, bindT_tup, setAll_nil, setAll_cons, forget_nil, forget_cons, prt_int, prt_out, isOut, keepOk_nil, keepOk_cons, recv_str, b_add, b_sub, c_lt, c_le, c_gt, c_ge, c_ltS, c_gtS, c_eqI, c_neI, c_eqS, c_neS, c_eqB, c_neB, c_isn, c_isnt, c_memS, c_nmemS, sl_lst, len_lst, len_tup, is_str, is_intI, is_boolI, is_boolB, tuple_lst, list_lst, list_tup, find_one, seqO_nx, seqO_no, seqO_rt, seqO_ex, seqO_bk, seqO_ct, seqO_seqO, seqO_ite, x_nil, sat_nx, sat_rt, sat_ex, sat_thru, sat_thru_ct, sat_nxt, sat_t1, sat_t1c, sat_t1r, sat_t1e, Rs.bind_ok, Rs.bind_ex, Rs.out_ok, Rs.out_ex, List.set_cons_succ, List.set_cons_zero, List.getElem?_cons_succ, List.getElem?_cons_zero, List.map_cons, List.map_nil, List.cons_append, List.nil_append, startG, List.reduceReplicate, List.length_cons, List.length_nil, Nat.reduceAdd, Nat.reduceSub, Nat.zero_add, Nat.add_zero, Nat.zero_le, Nat.reduceLeDiff, List.append_nil, reduceCtorEq, if_true, if_false, ite_true, ite_false, ne_eq, not_false_eq_true, not_true_eq_false, decide_true, decide_false, decide_not, Bool.not_true, Bool.not_false, Bool.and_true, Bool.true_and, Bool.and_self, Bool.false_eq_true, and_self, and_true, true_and, decide_eq_true_eq, Int.reduceEq, Int.cast_ofNat_Int, Int.reduceNe, Int.reduceLT, Int.reduceLE, Int.reduceNeg, Int.reduceAdd, Int.reduceSub, tgSlots, freeAt, List.all_cons, List.all_nil, isNon_non, isNon_str, isNon_int, isNon_bl, isNon_tup, isNon_lst, isNon_opq, fin_nx, fin_rt, fin_ex, e_xt, Bool.true_eq_false, eq_self, isc_non, isc_opq, x_xs, x_try, tryO_nx, tryO_rt, tryO_ex, hdG_as, hdG_cst, List.contains_cons, List.contains_nil, Nat.reduceBEq, beq_self_eq_true, up_nil, up_cons, tn_nx, tn_ct, tn_bk, tn_rt, tn_ex, b_fdiv, b_mod, max_two, min_two, ixl, ixt, ixl_last, ixl_zero, ixt_zero, ixs, ixs_last, ixT0, ixT1, ixT12, ixT22, ixL0, ixL1, ixM0, ixM1, ixM2, lenS, slS, rvS, catS, appL, unp2, unp3, r1, r2, r2one, e_comp2, it_nth, nat1, nat1l, natA, natM, natD, natR, natS, natS1, natE, natL, natLe, natL0, natN0, nat0, max_nats, Bool.not_eq_true', Bool.not_eq_false', List.length_map, List.length_append, List.length_range, Bool.true_or, Bool.false_or, Bool.or_true, Bool.or_false, Bool.and_false, Bool.false_and, Bool.or_self, decide_eq_false_iff_not, Nat.lt_irrefl, Bool.not_eq_eq_eq_not, not_true, not_false_iff, Nat.not_lt_zero, f_law_bar_words_15, f_law_power_27, f_law_in_order_2_15, f_law_in_order_2_32, $xs,*])
section
variable {s : List Nat} {rows : List (List Nat)} {marks : List Bool}
theorem after_ok (M : Mach s rows marks) {r : Nat} {w : List Nat} (hr : r < rows.length) (hw : Wd s.length w) : m_law_after [mD s rows marks, .int r, .str (sp s w)] = .ok (false, .int (goes (go rows) r w : Nat)) := by
  rw [law_after_ok M hr (sp_ov hw), lead_sp M.ltrs hw]
theorem is_word_sp {w : List Nat} (h : Wd s.length w) (hl : w.length ≤ 100000) : m_law_is_word [.str (sp s w), .str s] = .ok (false, .bl true) := is_word_ok (sp_ov h) (by rw [sp_len]; exact hl)
theorem bar_words_ok (l : List (List Nat)) (h : ∀ w ∈ l, Wd s.length w ∧ w.length ≤ 60) : m_law_bar_words [.tup (l.map fun w => .str (sp s w)), .str s] = .ok (false, .bl true) := by
  refine mk_sat (R := fun z => z = .ok (false, .bl true)) rfl ?_
  unfold i_law_bar_words
  dsimp! [up_nil]
  refine for_map (fun G0 k G => ∃ t2, G = up G0 [(2, t2)]) ⟨none, rfl⟩ ?_ ?_
  · rintro k x G hx hk ⟨t2, rfl⟩
    refine ⟨_, rfl, ?_⟩
    obtain ⟨h1, h2⟩ := h x (List.mem_of_getElem? hx)
    have wl : (sp s x).length = x.length := sp_len
    have n60 : ¬ (60 : Int) < ((x.length : Nat) : Int) := by omega
    dsimp! [is_word_sp h1 (by omega), wl, n60]
    exact ⟨_, rfl⟩
  · rintro G ⟨t2, rfl⟩
    dsimp! [up_nil]
end
end RA
/-! B4: plain: rows of states are told by their states. -/
namespace RA
theorem subLe {α : Type} [DecidableEq α] : ∀ {l s : List α}, l.Nodup → (∀ x ∈ l, x ∈ s) → l.length ≤ s.length
  | [], _, _, _ => Nat.zero_le _
  | a :: l, s, nd, h => by
    rw [List.nodup_cons] at nd
    have ih := subLe (l := l) (s := s.erase a) nd.2 fun x hx => (List.mem_erase_of_ne (fun z => nd.1 (by rw [← z]; exact hx))).mpr (h x (List.mem_cons_of_mem _ hx))
    have hm := h a List.mem_cons_self
    have := List.length_pos_of_mem hm
    rw [List.length_erase_of_mem hm] at ih
    rw [List.length_cons]
    omega
section
variable {α : Type} {m : Nat} {st : α → Nat → α} {a0 : α} {f g : List (α × List Nat)} {i j i' j' : Nat}
theorem Bfs.sub (I : Bfs m st a0 f i j) (hi : f.length ≤ i) (J : Bfs m st a0 g i' j') (hj : g.length ≤ i') : ∀ p ∈ f, p ∈ g := fun p hp => by
  obtain ⟨h1, h2, _⟩ := I.it p hp
  obtain ⟨u, h3, h4⟩ := J.done hj p.2 h1
  obtain ⟨h5, h6, _⟩ := J.it _ h3
  rw [h2] at h3 h6
  have h7 := I.first hi (a := p.1) (u := p.2) (w := u) hp h5 h6
  have e := num_inj h1 h5 (by show num m p.2 = num m u; exact Nat.le_antisymm h7 h4)
  rw [show p = (p.1, u) from by rw [← show p.2 = u from e]]
  exact h3
/-- no row of unlike states is longer than the whole -/
theorem Bfs.most [DecidableEq α] (I : Bfs m st a0 f i j) (hi : f.length ≤ i) (J : Bfs m st a0 g i' j') : g.length ≤ f.length := by
  have := subLe (l := g.map (·.1)) (s := f.map (·.1)) J.nd fun a ha => by
    obtain ⟨p, hp, rfl⟩ := List.mem_map.mp ha
    obtain ⟨h1, h2, _⟩ := J.it p hp
    obtain ⟨u, h3, _⟩ := I.done hi p.2 h1
    rw [h2] at h3
    exact List.mem_map.mpr ⟨_, h3, rfl⟩
  rwa [List.length_map, List.length_map] at this
end
end RA
/-! W23: how long a parting word is; words taken; letters that may be exchanged. -/
namespace RA
open PySem PySem.Spec PyProof.Rows L2
/- 345 takes_word(machine, word); slots: 0=machine 1=word 2=room 3=sign; calls:  -/
def i_takes_word : IS := (.seq (.set 2 (.k (.int 0))) (.seq (.for_ (.one 3) (.ex (.v 1)) (.seq (.set 2 (.ix (.ix (.ix (.v 0) (.k (.int 1))) (.v 2)) (.me .find (.ix (.v 0) (.k (.int 0))) (.cons (.v 3) .nil)))) .nil)) (.seq (.ret (.ix (.ix (.v 0) (.k (.int 2))) (.v 2))) .nil)))
def f_takes_word : FT := fun _ _ => .no
def m_takes_word : List RA.D → Rs (Bool × RA.D) := mk 2 4 f_takes_word i_takes_word
/- 346 in_first(machine, one, two); slots: 0=machine 1=one 2=two; calls: 345=takes_word -/
def i_in_first : IS := (.seq (.if_ (.call 345 (.cons (.v 0) (.cons (.v 1) .nil))) (.seq (.ret (.tup (.cons (.v 1) (.cons (.v 2) .nil)))) .nil) .nil) (.seq (.ret (.tup (.cons (.v 2) (.cons (.v 1) .nil)))) .nil))
def f_in_first : FT := fun n ds => match n, ds with | 345, ds => m_takes_word ds | _, _ => .no
@[simp] theorem f_in_first_345 (ds : List RA.D) : f_in_first 345 ds = m_takes_word ds := (rfl)
def m_in_first : List RA.D → Rs (Bool × RA.D) := mk 3 3 f_in_first i_in_first
/- 347 swapped(machine); slots: 0=machine 1=words 2=letters 3=room 4=i 5=j 6=one 7=two 8=tail 9=head 10=here; calls: 316=roads 53=parting 346=in_first -/
def i_swapped : IS := (.seq (.set 1 (.call 316 (.cons (.v 0) (.cons (.k (.int 0)) .nil)))) (.seq (.set 2 (.ix (.v 0) (.k (.int 0)))) (.seq (.for_ (.one 3) (.rng1 (.bi .len (.cons (.ix (.v 0) (.k (.int 1))) .nil))) (.seq (.for_ (.one 4) (.rng1 (.bi .len (.cons (.v 2) .nil))) (.seq (.for_ (.one 5) (.rng1 (.v 4)) (.seq (.set 6 (.ix (.ix (.ix (.v 0) (.k (.int 1))) (.ix (.ix (.ix (.v 0) (.k (.int 1))) (.v 3)) (.v 4))) (.v 5))) (.seq (.set 7 (.ix (.ix (.ix (.v 0) (.k (.int 1))) (.ix (.ix (.ix (.v 0) (.k (.int 1))) (.v 3)) (.v 5))) (.v 4))) (.seq (.if_ (.cmp .ne (.v 6) (.v 7)) (.seq (.set 8 (.call 53 (.cons (.v 0) (.cons (.v 6) (.cons (.v 7) .nil))))) (.seq (.set 9 (.ix (.v 1) (.v 3))) (.seq (.set 10 (.b .add (.b .add (.b .add (.v 9) (.ix (.v 2) (.v 4))) (.ix (.v 2) (.v 5))) (.v 8))) (.seq (.ret (.call 346 (.cons (.v 0) (.cons (.v 10) (.cons (.b .add (.b .add (.b .add (.v 9) (.ix (.v 2) (.v 5))) (.ix (.v 2) (.v 4))) (.v 8)) .nil))))) .nil)))) .nil) .nil)))) .nil)) .nil)) (.seq (.ret (.k .non)) .nil))))
def f_swapped : FT := fun n ds => match n, ds with | 316, ds => m_roads ds | 53, ds => m_parting ds | 346, ds => m_in_first ds | _, _ => .no
@[simp] theorem f_swapped_316 (ds : List RA.D) : f_swapped 316 ds = m_roads ds := (rfl)
@[simp] theorem f_swapped_53 (ds : List RA.D) : f_swapped 53 ds = m_parting ds := (rfl)
@[simp] theorem f_swapped_346 (ds : List RA.D) : f_swapped 346 ds = m_in_first ds := (rfl)
def m_swapped : List RA.D → Rs (Bool × RA.D) := mk 1 11 f_swapped i_swapped
local macro_rules | `(tactic| dsimp! [$xs,*]) => `(tactic| simp (disch := first | assumption | omega | (simp only [List.length_map, List.length_append, List.length_cons, List.length_nil, List.length_range, List.length_set]; omega) | decide | rfl) only [tstO_eq, x_seq, x_set, x_own, x_do, x_if, x_for, x_whl, x_ret, x_retN, x_pass, x_brk, x_cnt, x_rse, x_fgt, x_frz, x_retp, x_app, x_aug, x_unp, x_put, e_v, e_pk, e_k, e_gl, e_b, e_neg, e_cmp, e_and, e_or, e_not, e_ife, e_tup, e_lst, e_dct, e_dct1, e_lset, e_ix, e_sl, e_rv, rv_lst, e_out, e_bi, e_me, e_call, es_nil, es_cons, i_ex, i_rng1, i_rng2, i_zip, i_rev, valO_ok, pkO_ok, glO_ok, negO_ok, frzO_ok, retO_ok, augO_add, augO_sub, walkO_lst, walkO_tup, walkO_str, zipO_ok, zipI_ok, revO_ok, asB_ok, items_lst, items_tup, items_str, bindT_one, bindT_tup, setAll_nil, setAll_cons, forget_nil, forget_cons, prt_int, prt_out, isOut, keepOk_nil, keepOk_cons, recv_str, b_add, b_sub, c_lt, c_le, c_gt, c_ge, c_ltS, c_gtS, c_eqI, c_neI, c_eqS, c_neS, c_eqB, c_neB, c_isn, c_isnt, c_memS, c_nmemS, sl_lst, len_lst, len_tup, is_str, is_intI, is_boolI, is_boolB, tuple_lst, list_lst, list_tup, find_one, seqO_nx, seqO_no, seqO_rt, seqO_ex, seqO_bk, seqO_ct, seqO_seqO, seqO_ite, x_nil, sat_nx, sat_rt, sat_ex, sat_thru, sat_thru_ct, sat_nxt, sat_t1, sat_t1c, sat_t1r, sat_t1e, Rs.bind_ok, Rs.bind_ex, Rs.out_ok, Rs.out_ex, List.set_cons_succ, List.set_cons_zero, List.getElem?_cons_succ, List.getElem?_cons_zero, List.map_cons, List.map_nil, List.cons_append, List.nil_append, startG, List.reduceReplicate, List.length_cons, List.length_nil, Nat.reduceAdd, Nat.reduceSub, Nat.zero_add, Nat.add_zero, Nat.zero_le, Nat.reduceLeDiff, List.append_nil, reduceCtorEq, if_true, if_false, ite_true, ite_false, ne_eq, not_false_eq_true, not_true_eq_false, decide_true, decide_false, decide_not, Bool.not_true, Bool.not_false, Bool.and_true, Bool.true_and, Bool.and_self, Bool.false_eq_true, and_self, and_true, true_and, decide_eq_true_eq, Int.reduceEq, Int.cast_ofNat_Int, Int.reduceNe, Int.reduceLT, Int.reduceLE, Int.reduceNeg, Int.reduceAdd, Int.reduceSub, tgSlots, freeAt, List.all_cons, List.all_nil, isNon_non, isNon_str, isNon_int, isNon_bl, isNon_tup, isNon_lst, isNon_opq, fin_nx, fin_rt, fin_ex, e_xt, Bool.true_eq_false, eq_self, isc_non, isc_opq, x_xs, x_try, tryO_nx, tryO_rt, tryO_ex, hdG_as, hdG_cst, List.contains_cons, List.contains_nil, Nat.reduceBEq, beq_self_eq_true, up_nil, up_cons, tn_nx, tn_ct, tn_bk, tn_rt, tn_ex, b_fdiv, b_mod, max_two, min_two, ixl, ixt, ixl_last, ixl_zero, ixt_zero, ixs, ixs_last, ixT0, ixT1, ixT12, ixT22, ixL0, ixL1, ixM0, ixM1, ixM2, lenS, slS, rvS, catS, appL, unp2, unp3, r1, r2, r2one, e_comp2, it_nth, nat1, nat1l, natA, natM, natD, natR, natS, natS1, natE, natL, natLe, natL0, natN0, nat0, max_nats, Bool.not_eq_true', Bool.not_eq_false', List.length_map, List.length_append, List.length_range, Bool.true_or, Bool.false_or, Bool.or_true, Bool.or_false, Bool.and_false, Bool.false_and, Bool.or_self, decide_eq_false_iff_not, Nat.lt_irrefl, Bool.not_eq_eq_eq_not, not_true, not_false_iff, Nat.not_lt_zero, f_in_first_345, f_swapped_316, f_swapped_53, f_swapped_346, f_parting_52, $xs,*])
theorem num_len {m : Nat} : ∀ (w u : List Nat), Wd m u → u.length < w.length → num m u < num m w := by
  refine snoc_ind (fun u _ h => absurd h (Nat.not_lt_zero _)) fun w k ih u hu h => ?_
  by_cases e : u = []
  · rw [e, num_nil, num_snoc]; omega
  · obtain ⟨v, j, rfl⟩ : ∃ v j, u = v ++ [j] := ⟨u.dropLast, u.getLast e, (List.dropLast_concat_getLast e).symm⟩
    rw [List.length_append, List.length_append, List.length_singleton, List.length_singleton] at h
    exact num_lt_snoc hu.last (ih v hu.left (by omega))
def ordp (p q : Nat) : Nat × Nat := (min p q, max p q)
theorem ordp_eq {p q a b : Nat} (h : ordp p q = ordp a b) : (p = a ∧ q = b) ∨ (p = b ∧ q = a) := by
  unfold ordp at h
  have h1 := congrArg Prod.fst h
  have h2 := congrArg Prod.snd h
  simp only at h1 h2
  omega
def S28 : List (Nat × Nat) := (List.range 8).flatMap fun h => (List.range h).map fun l => (l, h)
theorem S28_mem {p q : Nat} (hp : p < 8) (hq : q < 8) (h : p ≠ q) : ordp p q ∈ S28 := by
  unfold S28 ordp
  refine List.mem_flatMap.mpr ⟨max p q, List.mem_range.mpr (by omega), List.mem_map.mpr ⟨min p q, List.mem_range.mpr (by omega), rfl⟩⟩
theorem parting_len {m n : Nat} {g : Nat → Nat → Nat} {mk : Nat → Bool} {a b : Nat} {t : List Nat} (C : Clo m n g) (hn : n ≤ 8) (ha : a < n) (hb : b < n) (F : First m (fun w => mk (goes g a w) = mk (goes g b w)) (some t)) : t.length ≤ 27 := by
  obtain ⟨f1, f2, f3⟩ := F
  have tk : ∀ k, Wd m (t.take k) := fun k x hx => f1 x (List.mem_of_mem_take hx)
  have dr : ∀ k, Wd m (t.drop k) := fun k x hx => f1 x (List.mem_of_mem_drop hx)
  have spl : ∀ (k c : Nat), goes g (goes g c (t.take k)) (t.drop k) = goes g c t := fun k c => by rw [← goes_app, List.take_append_drop]
  have := subLe (l := (List.range (t.length + 1)).map fun k => ordp (goes g a (t.take k)) (goes g b (t.take k))) (s := S28) ?_ fun x hx => ?_
  · rw [List.length_map, List.length_range, show S28.length = 28 from rfl] at this
    omega
  · unfold List.Nodup
    rw [List.pairwise_map]
    refine List.Pairwise.imp_of_mem (fun {i j} hi hj hij => fun e => ?_) (List.pairwise_lt_range (n := t.length + 1))
    have hi := List.mem_range.mp hi
    have hj := List.mem_range.mp hj
    have z1 : Wd m (t.take i ++ t.drop j) := (tk i).app (dr j)
    have z2 := f3 _ z1 (num_len t _ z1 (by rw [List.length_append, List.length_take, List.length_drop]; omega))
    have z2 : mk (goes g a (t.take i ++ t.drop j)) = mk (goes g b (t.take i ++ t.drop j)) := z2
    rw [goes_app, goes_app] at z2
    rcases ordp_eq e with ⟨e1, e2⟩ | ⟨e1, e2⟩
    · rw [e1, e2, spl, spl] at z2; exact f2 z2
    · rw [e1, e2, spl, spl] at z2; exact f2 z2.symm
  · obtain ⟨k, _, rfl⟩ := List.mem_map.mp hx
    have h1 := C.goes ha (tk k)
    have h2 := C.goes hb (tk k)
    refine S28_mem (by omega) (by omega) fun z => f2 ?_
    show mk (goes g a t) = mk (goes g b t)
    rw [← spl k a, ← spl k b, z]
section
variable {s : List Nat} {rows : List (List Nat)} {marks : List Bool}
/-- parting, of two rooms of a least machine -/
theorem parts_ok (M : Mach s rows marks) (hn : rows.length ≤ 8) (K : Canon s.length rows.length (go rows) (it marks)) {a b : Nat} (ha : a < rows.length) (hb : b < rows.length) (ne : a ≠ b) : ∃ t, m_parting [mD s rows marks, .int a, .int b] = .ok (false, .str (sp s t)) ∧ Wd s.length t ∧ ¬ it marks (goes (go rows) a t) = it marks (goes (go rows) b t) ∧ t.length ≤ 27 := by
  obtain ⟨x, e, F, _⟩ := parting_ok M (by omega) ha hb
  cases x with
  | none => exact absurd (K.unq a ha b hb F) ne
  | some t => exact ⟨t, e, F.1, F.2.1, parting_len M.rws.clo hn ha hb F⟩
theorem takes_word_ok (M : Mach s rows marks) {w : List Nat} (hw : Wd s.length w) : m_takes_word [mD s rows marks, .str (sp s w)] = .ok (false, .bl (it marks (goes (go rows) 0 w))) := by
  refine mk_sat (R := fun z => z = .ok (false, .bl (it marks (goes (go rows) 0 w)))) rfl ?_
  unfold i_takes_word
  have C := M.rws.clo
  dsimp! [up_nil]
  refine for_map (fun G0 k G => ∃ t3, G = up G0 [(2, some (false, .int (goes (go rows) 0 (w.take k) : Nat))), (3, t3)]) ⟨none, rfl⟩ ?_ ?_
  · rintro k c G hc hk ⟨t3, rfl⟩
    refine ⟨_, rfl, ?_⟩
    have hk2 : k < w.length := by rw [← sp_len (s := s)]; exact hk
    obtain ⟨x, hx⟩ : ∃ x, w[k]? = some x := ⟨_, List.getElem?_eq_getElem hk2⟩
    have hwk : x < s.length := hw _ (List.mem_of_getElem? hx)
    have ec : c = nth s x := by
      have h1 : (sp s w)[k]? = some (nth s x) := by unfold sp; rw [List.getElem?_map, hx]; rfl
      rw [h1] at hc; exact (Option.some.inj hc).symm
    have tk : w.take (k + 1) = w.take k ++ [x] := take_snoc hx
    have q0 : goes (go rows) 0 (w.take k) < rows.length := C.goes M.pos fun x hx => hw x (List.mem_of_mem_take hx)
    obtain ⟨h1, h2⟩ := M.rws.row _ q0
    have fd : findL s c = (x : Nat) := by rw [ec]; exact find_nth M.ltrs hwk
    have mf : meD .find (.str s) [.str [c]] = .ok (.val, .int (x : Nat)) := by
      show Rs.ok (Fl.val, RA.D.int (findL s c)) = _
      rw [fd]
    have lw : x < (it rows (goes (go rows) 0 (w.take k))).length := by rw [h1]; exact hwk
    dsimp! [mf]
    exact ⟨some (false, .str [c]), by rw [tk, goes_snoc]⟩
  · rintro G ⟨t3, rfl⟩
    have e : w.take (sp s w).length = w := by rw [sp_len, List.take_length]
    have q0 : goes (go rows) 0 w < marks.length := by rw [M.mkl]; exact C.goes M.pos hw
    rw [e]
    dsimp! [up_nil]
theorem in_first_ok (M : Mach s rows marks) {u w : List Nat} (hu : Wd s.length u) : m_in_first [mD s rows marks, .str (sp s u), .str (sp s w)] = .ok (false, if it marks (goes (go rows) 0 u) = true then .tup [.str (sp s u), .str (sp s w)] else .tup [.str (sp s w), .str (sp s u)]) := by
  refine mk_sat (R := fun z => z = .ok (false, if it marks (goes (go rows) 0 u) = true then .tup [.str (sp s u), .str (sp s w)] else .tup [.str (sp s w), .str (sp s u)])) rfl ?_
  unfold i_in_first
  by_cases b : it marks (goes (go rows) 0 u) = true
  · dsimp! [takes_word_ok M hu, b]
  · dsimp! [takes_word_ok M hu, b]
/-- letters that may not be exchanged -/
structure Swap (s : List Nat) (rows : List (List Nat)) (marks : List Bool) (h t : List Nat) (i j : Nat) : Prop where
  hd : Wd s.length h
  tl : Wd s.length t
  hi : i < s.length
  hj : j < s.length
  len : h.length + t.length + 2 ≤ 40
  dif : ¬ it marks (goes (go rows) 0 (h ++ [i, j] ++ t)) = it marks (goes (go rows) 0 (h ++ [j, i] ++ t))
theorem swapped_ok (M : Mach s rows marks) (hn : rows.length ≤ 8) (K : Canon s.length rows.length (go rows) (it marks)) :
    (∃ h t i j, m_swapped [mD s rows marks] = .ok (false, .tup [.str (sp s (h ++ [i, j] ++ t)), .str (sp s (h ++ [j, i] ++ t))]) ∧ Swap s rows marks h t i j ∧ it marks (goes (go rows) 0 (h ++ [i, j] ++ t)) = true) ∨ (m_swapped [mD s rows marks] = .ok (false, .non) ∧ ∀ r < rows.length, ∀ i < s.length, ∀ j < i, go rows (go rows r i) j = go rows (go rows r j) i) := by
  refine mk_sat (R := fun z => (∃ h t i j, z = .ok (false, .tup [.str (sp s (h ++ [i, j] ++ t)), .str (sp s (h ++ [j, i] ++ t))]) ∧ Swap s rows marks h t i j ∧ it marks (goes (go rows) 0 (h ++ [i, j] ++ t)) = true) ∨ (z = .ok (false, .non) ∧ ∀ r < rows.length, ∀ i < s.length, ∀ j < i, go rows (go rows r i) j = go rows (go rows r j) i)) rfl ?_
  unfold i_swapped
  have sl := M.ltrs.le
  have R := M.rws
  have C := R.clo
  obtain ⟨f, ef, I, fl⟩ := roads_ok M (by omega) M.pos
  have ef : m_roads [mD s rows marks, .int 0] = .ok (true, .dct (kv (fun (n : Nat) => RA.D.int n) (rD s f))) := ef
  dsimp! [ef]
  refine for_rng (fun G0 r G => ∃ t3 t4 t5 t6 t7, G = up G0 [(3, t3), (4, t4), (5, t5), (6, t6), (7, t7)] ∧ ∀ r' < r, ∀ i < s.length, ∀ j < i, go rows (go rows r' i) j = go rows (go rows r' j) i) ⟨none, none, none, none, none, rfl, fun r h => absurd h (Nat.not_lt_zero _)⟩ ?_ ?_
  · rintro r G hr ⟨t3, t4, t5, t6, t7, rfl, H⟩
    refine ⟨_, rfl, ?_⟩
    obtain ⟨r1, r2⟩ := R.row r hr
    dsimp! [up_nil]
    refine for_rng (fun G0 i G => ∃ t4 t5 t6 t7, G = up G0 [(4, t4), (5, t5), (6, t6), (7, t7)] ∧ ∀ i' < i, ∀ j < i', go rows (go rows r i') j = go rows (go rows r j) i') ⟨t4, t5, t6, t7, rfl, fun i h => absurd h (Nat.not_lt_zero _)⟩ ?_ ?_
    · rintro i G hi ⟨t4, t5, t6, t7, rfl, Hi⟩
      refine ⟨_, rfl, ?_⟩
      dsimp! [up_nil]
      refine for_rng (fun G0 j G => ∃ t5 t6 t7, G = up G0 [(5, t5), (6, t6), (7, t7)] ∧ ∀ j' < j, go rows (go rows r i) j' = go rows (go rows r j') i) ⟨t5, t6, t7, rfl, fun i h => absurd h (Nat.not_lt_zero _)⟩ ?_ ?_
      · rintro j G hj ⟨t5, t6, t7, rfl, Hj⟩
        refine ⟨_, rfl, ?_⟩
        have hjs : j < s.length := by omega
        have a1 : nth (it rows r) i < rows.length := C r hr i hi
        have a2 : nth (it rows r) j < rows.length := C r hr j hjs
        obtain ⟨b1, b2⟩ := R.row _ a1
        obtain ⟨c1, c2⟩ := R.row _ a2
        have g1 : nth (it rows (nth (it rows r) i)) j < rows.length := C _ a1 j hjs
        have g2 : nth (it rows (nth (it rows r) j)) i < rows.length := C _ a2 i hi
        have li : i < (it rows r).length := by omega
        have lj : j < (it rows r).length := by omega
        have li2 : i < (it rows (nth (it rows r) j)).length := by omega
        have lj2 : j < (it rows (nth (it rows r) i)).length := by omega
        by_cases q : nth (it rows (nth (it rows r) i)) j = nth (it rows (nth (it rows r) j)) i
        · dsimp! [q]
          refine ⟨_, _, _, rfl, fun j' hj' => ?_⟩
          by_cases z : j' = j
          · rw [z]; exact q
          · exact Hj j' (by omega)
        · obtain ⟨t, et, t1, t2, t3⟩ := parts_ok M hn K g1 g2 q
          obtain ⟨w, hw, ew⟩ := K.rch r hr
          obtain ⟨h, hm, _⟩ := I.done (Nat.le_refl _) w hw
          rw [ew] at hm
          obtain ⟨u1, u2, u3⟩ := I.it _ hm
          have u2 : goes (go rows) 0 h = r := u2
          have u3 : h.length < f.length := u3
          have x1 : ixD (.dct (kv (fun (n : Nat) => RA.D.int n) (rD s f))) (.int (r : Nat)) = .ok (.str (sp s h)) := rD_ix (s := s) I.nd hm
          have ei : sp s h ++ [nth s i] ++ [nth s j] ++ sp s t = sp s (h ++ [i, j] ++ t) := by unfold sp; rw [List.map_append, List.map_append]; simp
          have ej : sp s h ++ [nth s j] ++ [nth s i] ++ sp s t = sp s (h ++ [j, i] ++ t) := by unfold sp; rw [List.map_append, List.map_append]; simp
          have wi : Wd s.length (h ++ [i, j] ++ t) := (u1.app (Wd.nil.cons hjs |>.cons hi)).app t1
          have wj : Wd s.length (h ++ [j, i] ++ t) := (u1.app (Wd.nil.cons hi |>.cons hjs)).app t1
          have hl : (sp s h).length = h.length := sp_len
          have tl : (sp s t).length = t.length := sp_len
          have fi := in_first_ok M (u := h ++ [i, j] ++ t) (w := h ++ [j, i] ++ t) wi
          have dif : ¬ it marks (goes (go rows) 0 (h ++ [i, j] ++ t)) = it marks (goes (go rows) 0 (h ++ [j, i] ++ t)) := by
            rw [goes_app, goes_app, goes_app, goes_app, u2]; exact t2
          by_cases b : it marks (goes (go rows) 0 (h ++ [i, j] ++ t)) = true
          · rw [if_pos b] at fi
            dsimp! [q, et, x1, ei, ej, fi, hl, tl]
            exact .inl ⟨h, t, i, j, rfl, ⟨u1, t1, hi, hjs, by omega, dif⟩, b⟩
          · rw [if_neg b] at fi
            dsimp! [q, et, x1, ei, ej, fi, hl, tl]
            refine .inl ⟨h, t, j, i, rfl, ⟨u1, t1, hjs, hi, by omega, fun z => dif z.symm⟩, ?_⟩
            have b : it marks (goes (go rows) 0 (h ++ [i, j] ++ t)) = false := by simpa using b
            rw [b] at dif
            simpa using dif
      · rintro G ⟨t5, t6, t7, rfl, Hj⟩
        dsimp! [up_nil]
        refine ⟨_, _, _, _, rfl, fun i' hi' => ?_⟩
        by_cases z : i' = i
        · rw [z]; exact Hj
        · exact Hi i' (by omega)
    · rintro G ⟨t4, t5, t6, t7, rfl, Hi⟩
      dsimp! [up_nil]
      refine ⟨_, _, _, _, _, rfl, fun r' hr' => ?_⟩
      by_cases z : r' = r
      · rw [z]; exact Hi
      · exact H r' (by omega)
  · rintro G ⟨t3, t4, t5, t6, t7, rfl, H⟩
    dsimp! [up_nil]
    exact .inr ⟨rfl, H⟩
end
end RA
/-! RAC: functions made within defs: what they are as data, that they do what the small language says. -/
namespace RA
open PySem PySem.Spec PyProof.Rows L2
variable [Tabs]
/-! ### cells that are told for a while -/
def addC (Cs : Addr → Option Obj) (H : Hp) : Hp := fun b => match Cs b with | some o => some (.frz o (.own b)) | none => H b
section
variable {Cs : Addr → Option Obj} {H H' : Hp} {b : Addr} {o : Obj}
theorem addC_some (h : Cs b = some o) : addC Cs H b = some (.frz o (.own b)) := by unfold addC; rw [h]
theorem addC_none (h : Cs b = none) : addC Cs H b = H b := by unfold addC; rw [h]
variable {P : Program} {w : World} {h : Heap}
end
/-! ### data where cells come and go -/
/-- cells -/
def IsCs (Cs : Addr → Option Obj) : Prop := ∀ b o, Cs b = some o → ∃ v, o.data = .cell v
section
variable {Cs : Addr → Option Obj} {c : Cfg} {B : Addr → Prop} {H H' : Hp}
theorem same_add (hn : ∀ b o, Cs b = some o → H b = none) : Same H (addC Cs H) := Same.all fun b u e => by
  cases q : Cs b with
  | none => rw [addC_none q]; exact e
  | some o => rw [hn b o q] at e; cases e
end
/-! ### functions made within defs -/
/-- its words -/
structure CloS where
  name : Str
  qual : Str
  params : Arguments
  body : FuncBody
  scope : Scope
  fr : List Str
abbrev CloS.fd (F : CloS) (cl : List (Str × Addr)) (c' : Addr) (doc pm ctv : Value) : FuncData :=
  { name := F.name, qualname := F.qual, params := F.params, body := F.body, scope := F.scope, globals := mainGlobals, closure := cl, defaults := .none, kwdefaults := .none, doc, pyModule := pm, annotations := none, code := .ref c', closureTuple := ctv, builtins := builtinsNs }
def FnB (a : Addr) (F : CloS) (cl : List (Str × Addr)) (c' : Addr) : HO := .ext fun h => ∃ (od : Option Addr) (sl : Array (Option Value)) (doc pm ctv : Value), h.get? a = some (⟨.type "function", od, .func (F.fd cl c' doc pm ctv), sl⟩ : Obj)
/-- at a stands the function F, whose captured names hold vs -/
def CloAt (F : CloS) (B : Addr → Prop) (H : Hp) (vs : List V) (a : Addr) : Prop :=
  ¬ B a ∧ ∃ (cl : List (Str × Addr)) (c' : Addr), H a = some (FnB a F cl c') ∧ CodeF H c' F.qual ∧ (∀ x y c, cl.lookup x = some c → cl.lookup y = some c → x = y) ∧ (∀ y c, cl.lookup y = some c → y ∈ F.fr) ∧ vs.length = F.fr.length ∧
    ∀ (i : Nat) (y : Str), F.fr[i]? = some y → ∃ (c : Addr) (oc : Obj) (u : Value) (v : V), cl.lookup y = some c ∧ H c = some (.frz oc (.own c)) ∧ oc.data = .cell (some u) ∧ vs[i]? = some v ∧ RelV v u
theorem CloAt.keep {F : CloS} {B : Addr → Prop} {H H' : Hp} {vs : List V} {a : Addr} (h : CloAt F B H vs a) (k : ∀ b o, ¬ B b → H b = some o → NoT o → H' b = some o) (kf : ∀ b o u, H b = some (.frz o u) → H' b = some (.frz o u)) : CloAt F B H' vs a := by
  obtain ⟨nb, cl, c', h1, ⟨oc, us, t, h2, r⟩, h3, h4, h5, h6⟩ := h
  refine ⟨nb, cl, c', k _ _ nb h1 trivial, ⟨oc, us, t, kf _ _ _ h2, r⟩, h3, h4, h5, fun i y e => ?_⟩
  obtain ⟨c, oc, u, v, e1, e3, e4⟩ := h6 i y e
  exact ⟨c, oc, u, v, e1, kf _ _ _ e3, e4⟩
theorem CloAt.grow {F : CloS} {B B' : Addr → Prop} {H : Hp} {vs : List V} {a : Addr} (h : CloAt F B H vs a) (g : ∀ b, B' b → B b ∨ H b = none) : CloAt F B' H vs a := by
  obtain ⟨nb, cl, c', h1, r⟩ := h
  exact ⟨fun z => (g a z).elim nb fun q => (by rw [h1] at q; cases q), cl, c', h1, r⟩
/-! ### what such a function promises -/
/-- the function F, called, does what m tells of its arguments and what it has captured -/
def CloRun (c : Cfg) (k : Nat) (F : CloS) (m : List RA.D → Rs (Bool × RA.D)) : Prop := ∀ (A : Around) (outer : List Env) (s : Shared) (H : Hp) (us : List Value) (vs caps : List V) (a : Addr) (B : Addr → Prop) (Q : VK) (E : XK),
  Room k A → Env0 c.P c.w c.K c.mg c.base A outer s H → CloAt F B H caps a → Vals vs us → spOf c (cellF m) (vs ++ caps) H Q E → codeAny (model c.P c.w) A (.call (.ref a) ⟨us, []⟩) (CR (L2.CX c.P c.w) outer c.P c.w H s Q E) s
def CloOk (c : Cfg) (k n : Nat) (m : List RA.D → Rs (Bool × RA.D)) : Prop := ∃ F : CloS, (∀ (B : Addr → Prop) (H : Hp) (vs : List V) (a : Addr), c.op B H n vs a → CloAt F B H vs a) ∧ CloRun c k F m
theorem CloOk.mono {c : Cfg} {j k n : Nat} {m : List RA.D → Rs (Bool × RA.D)} (h : CloOk c j n m) (e : j ≤ k) : CloOk c k n m := by
  obtain ⟨F, h1, h2⟩ := h
  exact ⟨F, h1, fun A outer s H us vs caps a B Q E hr => h2 A outer s H us vs caps a B Q E (hr.mono e)⟩
/-! ### calls of a local that holds such a function -/
/-! ### such a function is made -/
/-! ### bodies that make functions at their end -/
/-- a def statement of such a function -/
structure CloD (S : Stat) (sc : Scope) (nm : Nat → Nat → Str) (q : Str) (F : CloS) (i : Nat) (cs : List Nat) (d : Stmt) : Prop where
  eq : ∃ (pos : Pos) (body : List Stmt), d = .FunctionDef F.name F.params body [] none [] F.scope none F.name pos ∧ F.body = .stmts body ∧ nm pos.line pos.col = F.qual
  qu : F.qual = q ++ F.name
  df : F.params.defaults = [] ∧ F.params.kw_defaults = []
  an : ∀ env : Env, annTrees F.params none env = []
  nm : okN S sc i F.name = true
  fr : (F.scope.names.all fun y => !decide (y.2 = .free) || decide (y.1 ∈ F.fr)) = true
  ce : (F.fr.all fun y => decide (sc.names.lookup y = some .cell) && decide ((y, NameKind.free) ∈ F.scope.names)) = true
  sl : cs.map (fun j => S.N[j]?) = F.fr.map some
section
variable {S : Stat} {X : Cx} {O : OpT} {W : WX} {sc : Scope} {xs : List (Nat × Str)} {B : Addr → Prop} {n : Nat} {nm : Nat → Nat → Str} {q : Str} {F : CloS} {i : Nat} {cs : List Nat} {d : Stmt}
theorem CloD.mem (D : CloD S sc nm q F i cs d) {y : Str} (h : (y, NameKind.free) ∈ F.scope.names) : y ∈ F.fr := by
  have := List.all_eq_true.mp D.fr _ h
  simpa using this
theorem CloD.cell (D : CloD S sc nm q F i cs d) {y : Str} (h : y ∈ F.fr) : sc.names.lookup y = some .cell ∧ (y, NameKind.free) ∈ F.scope.names := by
  have := List.all_eq_true.mp D.ce _ h
  simpa using this
theorem CloD.has (D : CloD S sc nm q F i cs d) (C : CtxB S X O W sc) (ok : X.Ok) : ∀ y ∈ F.scope.names, y.2 = .free → ∃ c, X.env.cells.lookup y.1 = some c := fun ⟨y, k⟩ hy e => by
  have e : k = .free := e
  subst e
  refine ok.has y (.inl ?_)
  show X.env.scope.names.lookup y = _
  rw [C.sc]; exact (D.cell (D.mem hy)).1
/-- what it captures are cells of the maker's -/
theorem CloD.look (D : CloD S sc nm q F i cs d) (C : CtxB S X O W sc) (ok : X.Ok) : (∀ y c, (cloFrom X.env.cells F.scope.names []).lookup y = some c → X.env.cells.lookup y = some c ∧ y ∈ F.fr) ∧ ∀ y ∈ F.fr, ∀ c, X.env.cells.lookup y = some c → (cloFrom X.env.cells F.scope.names []).lookup y = some c := by
  have h1 : ∀ y c, (cloFrom X.env.cells F.scope.names []).lookup y = some c → X.env.cells.lookup y = some c ∧ y ∈ F.fr := fun y c e => by
    rcases cloFrom_mem (PySem.mem_of_lookup e) with z | ⟨z1, z2⟩
    · cases z
    · obtain ⟨c2, hc⟩ := D.has C ok _ z1 rfl
      have hc : X.env.cells.lookup y = some c2 := hc
      rw [hc] at z2
      exact ⟨by rw [hc]; exact congrArg some z2.symm, D.mem z1⟩
  refine ⟨h1, fun y hy c hc => ?_⟩
  obtain ⟨c2, e2⟩ := mem_lookup (cloFrom_has (cells := X.env.cells) (acc := []) (D.cell hy).2)
  rw [e2]
  rw [(h1 y c2 e2).1] at hc
  exact hc
/-- what is told of the cells at a call -/
structure CelAt (X : Cx) (σ : L2.St) (H : Hp) (Cs : Addr → Option Obj) : Prop where
  is : IsCs Cs
  no : ∀ b o, Cs b = some o → H b = none
  ok : X.Ok
  val : ∀ (j : Nat) (y : Str) (v : V), X.N[j]? = some y → σ[j]? = some (some v) → X.env.scope.names.lookup y = some .cell → ∃ c o u, X.env.cells.lookup y = some c ∧ Cs c = some o ∧ o.data = .cell (some u) ∧ RelV v u
theorem CodeF.same {H H' : Hp} {c : Addr} {q : Str} (h : CodeF H c q) (s : Same H H') : CodeF H' c q := by
  obtain ⟨oc, vs, t, e, r⟩ := h
  exact ⟨oc, vs, t, s.keep _ _ e trivial, r⟩
/-- the function stands there, with the cells told -/
theorem CloD.at (D : CloD S sc nm q F i cs d) (C : CtxB S X O W sc) {σ : L2.St} {H : Hp} {Cs : Addr → Option Obj} (K : CelAt X σ H Cs) {Z : Addr → Prop} {f c' : Addr} {caps : List V} (nz : ¬ Z f) (hf : H f = some (FnB f F (cloFrom X.env.cells F.scope.names []) c')) (hc : CodeF H c' F.qual)
    (hl : caps.length = cs.length) (hv : ∀ (m j : Nat), cs[m]? = some j → ∃ v, caps[m]? = some v ∧ σ[j]? = some (some v)) : CloAt F Z (addC Cs H) caps f := by
  have up : Same H (addC Cs H) := same_add K.no
  obtain ⟨l1, l2⟩ := D.look C K.ok
  have lens : cs.length = F.fr.length := by have := congrArg List.length D.sl; rwa [List.length_map, List.length_map] at this
  refine ⟨nz, _, c', up.keep _ _ hf trivial, hc.same up, fun x y c e1 e2 => K.ok.inj x y c (l1 x c e1).1 (l1 y c e2).1, fun y c e => (l1 y c e).2, by rw [hl, lens], fun m y e => ?_⟩
  have hm : m < cs.length := by rw [lens]; exact (List.getElem?_eq_some_iff.mp e).1
  have e1 : S.N[cs[m]]? = some y := by
    have z := congrArg (fun l => l[m]?) D.sl
    simp only [List.getElem?_map, e, List.getElem?_eq_getElem hm, Option.map_some] at z
    exact Option.some.inj z
  obtain ⟨v, hv1, hv2⟩ := hv m _ (List.getElem?_eq_getElem hm)
  have yf := List.mem_of_getElem? e
  obtain ⟨c, o, u, k1, k2, k3, k4⟩ := K.val cs[m] y v (by rw [C.N]; exact e1) hv2 (by rw [C.sc]; exact (D.cell yf).1)
  exact ⟨c, o, u, v, l2 y yf c k1, addC_some k2, k3, hv1, k4⟩
end
/-! ### the bodies -/
section
variable {O : OpT} {P : Program} {w : World} {K : PySem.W.Frag} {mg : Str → Option Value} {base : Heap}
/-! ### the law's end, with tables -/
def spLawT (cs : List (Addr × Addr)) (K : PySem.W.Frag) : Sp := fun vs H Q _ => ∃ (a : Addr) (ns : List Int), vs = [.ref a] ∧ SqL K H a (ns.map V.int) ∧ ns.length ≤ 63 ∧ (∀ p ∈ cs, H p.2 = some (.tbl #[])) ∧ ∀ H', Q (.bl true) H'
theorem tabsOk_nil {cs : List (Addr × Addr)} {H : Hp} (h : ∀ p ∈ cs, H p.2 = some (.tbl #[])) (ht : ∀ p ∈ (Tabs.T : List (Addr × (Nat → Nat → Str))), ∃ c, (c, p.1) ∈ cs) : TabsOk H := fun p hp => by
  obtain ⟨c, hc⟩ := ht p hp
  refine ⟨#[], h _ hc, trivial, fun pos cv z => ?_⟩
  have z : codeAmong pos [] = some cv := z
  simp [codeAmong] at z
theorem law_ofT {k : Nat} {m : List RA.D → Rs (Bool × RA.D)} {f : Addr} {fd : FuncData} {ps : List Str} {cs : List (Addr × Addr)} (F : FnOk P w K mg base (L2.CX P w) k f fd ps (spOf { toOpT := O, P := P, w := w, K := K, mg := mg, base := base } m))
    (h : ∀ ns : List Int, ns.length ≤ 63 → m [.lst (ns.map .int)] = .ok (false, .bl true)) (ht : ∀ p ∈ (Tabs.T : List (Addr × (Nat → Nat → Str))), ∃ c, (c, p.1) ∈ cs) : FnOk P w K mg base (L2.CX P w) k f fd ps (spLawT cs K) := by
  refine F.imp fun vs H Q E ⟨a, ns, ev, hS, hl, hp, q⟩ => ?_
  subst ev
  refine ⟨fun _ => False, [.lst (ns.map .int)], fun a z => z.elim, tabsOk_nil hp ht, .cons (.lst (.ints hS) Reps.ints) .nil, ?_⟩
  rw [h ns hl]
  exact fun v H' _ rv => by
    have e : v = .bl true := RepF.bl (f := .val) rv
    rw [e]; exact q H'
end
/-! ### tables of the head -/
/-- the tables of the text's defs are empty at the head -/
def TabIn (q : Program) (K : PySem.W.Frag) (mg : Str → Option Value) (h : Heap) : Prop := ∀ (x : Str) (f c P : Addr) (o : Obj) (fd : FuncData) (e : Value) (dd : Option Addr) (vs : Array Value) (sl : Array (Option Value)), ((recsOf q).any fun r => r.name == x) = true → mg x = some (.ref f) →
  K.lookup f = some o → o.data = .func fd → fd.code = .ref c → K.lookup c = some ⟨e, dd, .fields vs, sl⟩ → vs[11]? = some (.ref P) → h.get? P = some { cls := .none, data := .fields #[] }
theorem walk_ofT {l : PySem.W.OpenLaw} {n k : Nat} {q : Program} {loose : List Str} {XP : (Str → Option Value) → Heap → Prop} {YP : World → Heap → Prop} {d : DefRec} {K : Params → PySem.W.Frag} {CX : World → CXT} {x : Str}
    (hn : l.most = some n) (hn2 : n ≤ sizeLine) (hdf : d.params.defaults = []) (hr : Room k callerA) (hY : ∀ (w : World) (h : Heap), YP w h → (K w.params).In h)
    (F : ∀ (w : World) (mg : Str → Option Value) (fa : Addr) (h : Heap), (K w.params).In h → h.Ns mainGlobals mg → mg d.name = some (.ref fa) → TabIn q (K w.params) mg h → LamX.LawAtS l w (K w.params) (CX w) k n x mg fa h)
    (hCX : ∀ (w : World) (H : Hp) (s : Shared) (e : Value) (s' : Shared), CX w [] H s (fun _ _ _ => False) e s' → False) :
    PySem.W.WalkO q loose XP YP l.row.toRowW d [] (fun f vs => PySem.call f vs) := by
  refine Att.attach_callB hn hdf fun w s₀ s₁ mg mb fa o pm cd doc a vs ns G Y ho hd hcd hmg hobj hints hlen hbits hg => ?_
  have KX := hY w _ Y
  have TI : TabIn q (K w.params) mg s₁.heap := fun y f c P o1 fd1 e dd vs1 sl hrec k0 k1 k2 k3 k4 k5 => by
    obtain ⟨r, hm, hn1⟩ := List.any_eq_true.mp hrec
    obtain ⟨a', o', fd', c', P', h1, h2, h3, h4, h5, ⟨oc, vc, e1, _, e3, e4⟩, hP⟩ := G.T.tab r hm
    rw [beq_iff_eq.mp hn1, k0] at h1; cases h1
    have g1 := KX _ _ k1
    rw [g1] at h2; cases h2
    rw [k2] at h3; cases h3
    rw [k3] at h4; cases h4
    have g2 := KX _ _ k4
    rw [g2] at e1; cases e1
    cases e3
    rw [k5] at e4; cases e4
    exact hP
  obtain ⟨fd, cs, sp, hT, nT, C, hb, hsp, hF⟩ := F w mg fa _ KX G.T.g hmg TI
  exact LamX.law_callTs KX G.T.g G.T.b G.T.builtins G.T.nolimit hg hT nT C G.T.bmain hobj hints (Nat.le_trans hlen hn2) hr hF hb (fun H hH hS => hsp H a ns hlen hbits hH hS) fun H e s' => hCX w H s₁ e s'
/-! the tables, one after another -/
section
variable {K : PySem.W.Frag} {h : Heap}
theorem tt_nil {P : Addr × Addr → Prop} : ∀ p ∈ ([] : List (Addr × Addr)), P p := fun p hp => by cases hp
end
/-- the tables of cs, all with the names nm -/
@[reducible] def tabsAll (cs : List (Addr × Addr)) (nm : Nat → Nat → Str) : Tabs := ⟨cs.map fun p => (p.2, nm)⟩
theorem tabsAll_in {cs : List (Addr × Addr)} {nm : Nat → Nat → Str} : ∀ p ∈ (tabsAll cs nm).T, ∃ c, (c, p.1) ∈ cs := fun p hp => by
  obtain ⟨q, hq, rfl⟩ := List.mem_map.mp hp
  exact ⟨q.1, hq⟩
/-! ### for the laws' last texts -/
/-! parts of the text -/
/-- what the law's end asks -/
def LawT (P : Program) (w : World) (K : PySem.W.Frag) (mg : Str → Option Value) (fa : Addr) (h : Heap) (k : Nat) (x : Str) : Prop :=
  ∃ (fd : FuncData) (cs : List (Addr × Addr)) (sp : Sp), (∀ p ∈ cs, h.get? p.2 = some { cls := .none, data := .fields #[] }) ∧ (∀ p ∈ cs, K.lookup p.2 = none) ∧ (∀ p ∈ cs, PySem.W.CodeHd h p.1 p.2) ∧ (∀ (s : Shared) (u : Value), BindsTo s fd ⟨[u], []⟩ [(x, u)]) ∧
    (∀ (H : Hp) (a : Addr) (ns : List Int), ns.length ≤ 63 → (∀ z ∈ ns, Builtin.Int.intBits z ≤ 1048576) → (∀ p ∈ cs, H p.2 = some (.tbl #[])) → SqL K H a (ns.map V.int) → sp [.ref a] H (fun v _ => v = .bl true) fun _ _ _ => False) ∧
    ∀ base : Heap, K.In base → base.Ns mainGlobals mg → (∀ p ∈ cs, LamX.TabB base mg p.1 p.2) → FnOk P w K mg base (L2.CX P w) k fa fd [x] sp
end RA
/-! W24: rows of words; calls of methods; lists that hold words (the same as in K51). -/
namespace RA
open PySem PySem.Spec PyProof.Rows L2
section
variable {s : List Nat} {rows : List (List Nat)} {marks : List Bool}
theorem mth1 {F : FT} {m : Str} {n g : Nat} {cs : List RA.D} {as : List (Fl × RA.D)} {d : RA.D} (hk : keepOk as = true) (h : F g (.opq n cs :: as.map (fun x : Fl × RA.D => x.2)) = .ok (false, d)) : xtD F (.mth m [(n, g)]) ((.val, .opq n cs) :: as) = .ok (.val, d) := by
  show (match ([(n, g)] : List (Nat × Nat)).lookup n with | some f => if Fl.val = Fl.val ∧ keepOk as = true then (F f (.opq n cs :: as.map (fun x : Fl × RA.D => x.2))).bind (fun r : Bool × RA.D => Rs.ok (if r.1 = true then Fl.own else Fl.val, r.2)) else .no | none => .no) = _
  rw [List.lookup_cons, beq_self_eq_true]
  show (if Fl.val = Fl.val ∧ keepOk as = true then (F g (.opq n cs :: as.map (fun x : Fl × RA.D => x.2))).bind (fun r : Bool × RA.D => Rs.ok (if r.1 = true then Fl.own else Fl.val, r.2)) else .no) = _
  rw [if_pos ⟨rfl, hk⟩, h]; rfl
theorem mk_at {F : FT} {n : Nat} {x : Str} : xtD F (.mk n x) [] = .ok (.val, .opq n []) := (rfl)
theorem memN {x : Nat} {l : List Nat} : memD (.int (x : Nat)) (.lst (l.map (fun (n : Nat) => RA.D.int n))) = .ok (decide (x ∈ l)) := by
  have fl : (flatD (.int (x : Nat)) && (l.map (fun (n : Nat) => RA.D.int n)).all flatD) = true := by
    rw [Bool.and_eq_true]
    exact ⟨rfl, List.all_eq_true.mpr fun y hy => by obtain ⟨z, _, rfl⟩ := List.mem_map.mp hy; rfl⟩
  show (if _ then _ else _) = _
  rw [if_pos fl, List.any_map]
  congr 1
  rw [Bool.eq_iff_iff, List.any_eq_true, decide_eq_true_eq]
  constructor
  · rintro ⟨y, hy, e⟩
    have e : ((y : Int) == (x : Int)) = true := e
    rw [← Int.ofNat_inj.mp (eq_of_beq e)]; exact hy
  · intro h
    refine ⟨x, h, ?_⟩
    show ((x : Int) == (x : Int)) = true
    exact beq_self_eq_true _
theorem nmemN {x : Nat} {l : List Nat} : cmpD .nmem (.int (x : Nat)) (.lst (l.map (fun (n : Nat) => RA.D.int n))) = .ok (!decide (x ∈ l)) := by
  show (memD _ _).bind _ = _
  rw [memN]; rfl
def Lng (s : List Nat) (rows rows' : List (List Nat)) (marks marks' : List Bool) : Prop := ∀ w, Wd s.length w → it marks' (goes (go rows') 0 w) = it marks (goes (go rows) 0 w)
end
theorem cutI {ns : List Int} {a b : Nat} : cutD (ns.map RA.D.int) (some (a : Int)) (some (b : Int)) = ((ns.drop a).take (b - a)).map .int := by
  rw [cut_mid, List.map_take, List.map_drop]
end RA
/-! RAL: s.count(t), s.startswith(t), s.endswith(t); list * number. -/
namespace RA
open PySem PySem.Spec PyProof.Rows L2
/-! ### signs counted, beginnings, ends -/
theorem drop_count (s : List Nat) (ch : Nat) : ∀ (m a : Nat), (∀ k, a ≤ k → k < a + m → s[k]? ≠ some ch) → (s.drop a).count ch = (s.drop (a + m)).count ch
  | 0, a, _ => rfl
  | m + 1, a, h => by
    have ih := drop_count s ch m (a + 1) fun k h1 h2 => h k (by omega) (by omega)
    rw [show a + 1 + m = a + (m + 1) by omega] at ih
    rw [← ih]
    by_cases hl : a < s.length
    · have h0 := h a (Nat.le_refl _) (by omega)
      rw [List.getElem?_eq_getElem hl] at h0
      rw [List.drop_eq_getElem_cons hl, List.count_cons]
      have : (s[a] == ch) = false := by
        rw [beq_eq_false_iff_ne]
        exact fun e => h0 (by rw [e])
      rw [this]; rfl
    · rw [List.drop_eq_nil_of_le (by omega), List.drop_eq_nil_of_le (by omega)]
theorem chain_count (s : List Nat) (ch : Nat) : ∀ (l : List Nat) (a f : Nat), StrLaws.ChainG (⟨⟨s⟩⟩ : PySem.Str) ⟨⟨[ch]⟩⟩ (⟨⟨s⟩⟩ : PySem.Str).length a l f → (s.drop a).count ch = l.length + (s.drop f).count ch
  | [], a, f, h => by
    have e : f = a := h
    rw [e, List.length_nil, Nat.zero_add]
  | c :: r, a, f, ⟨h1, h2, h3, h4⟩ => by
    have one : ∀ k, StrLaws.At (⟨⟨s⟩⟩ : PySem.Str) ⟨⟨[ch]⟩⟩ (⟨⟨s⟩⟩ : PySem.Str).length k ↔ s[k]? = some ch := fun k => StrLaws.subAt_one (⟨⟨s⟩⟩ : PySem.Str) ch k
    have ih := chain_count s ch r (c + 1) f h4
    have hc := (one c).mp h2
    have d := drop_count s ch (c - a) a fun k k1 k2 e => h3 k k1 (by omega) ((one k).mpr e)
    rw [show a + (c - a) = c by omega] at d
    obtain ⟨hl, e⟩ := List.getElem?_eq_some_iff.mp hc
    rw [d, List.drop_eq_getElem_cons hl, e, List.count_cons_self, ih, List.length_cons]
    omega
theorem count_occ (s : List Nat) (ch : Nat) : Txt.count ⟨⟨s⟩⟩ ⟨⟨[ch]⟩⟩ = ((s.count ch : Nat) : Int) := by
  obtain ⟨f, g, hn⟩ := StrLaws.occ_tight (⟨⟨s⟩⟩ : PySem.Str) ⟨⟨[ch]⟩⟩ (Nat.le_refl 1)
  have one : ∀ k, StrLaws.At (⟨⟨s⟩⟩ : PySem.Str) ⟨⟨[ch]⟩⟩ (⟨⟨s⟩⟩ : PySem.Str).length k ↔ s[k]? = some ch := fun k => StrLaws.subAt_one (⟨⟨s⟩⟩ : PySem.Str) ch k
  have h := chain_count s ch _ 0 f g
  rw [drop_count s ch s.length f fun k k1 k2 e => hn k k1 ((one k).mpr e), List.drop_eq_nil_of_le (show s.length ≤ f + s.length by omega), List.count_nil, Nat.add_zero, List.drop_zero] at h
  unfold Txt.count
  rw [h]
section
variable [Tabs]
/-- a method of a text with one argument -/
theorem x1_read {S : Stat} {c : Cfg} {W : WX} {B : Addr → Prop} {G : Ev} {σ : L2.St} {H : Hp} {Q : VK} {x y : IE} {f : Fl × D → Fl × D → Rs (Fl × D)} {r : V → List V → Hp → VK → Prop} (hn : ∀ n fs, ev S.F y G ≠ .ex n fs)
    (hq : tE c B W G ((ev S.F x G).bind fun a => (ev S.F y G).bind fun b => f a b) σ H Q) (hs : ∀ a b res, f a b = .ok res → ∃ s, a.2 = .str s) (hne : ∀ a b n fs, f a b ≠ .ex n fs)
    (hr : ∀ a b v w H1, (∀ z, Zof B G σ z → H z ≠ none) → Same H H1 → RepF c (Zof B G σ) H H1 a v → RepF c (Zof B G σ) H H1 b w → ∀ res, f a b = .ok res → (∀ v H', Same H1 H' → RepF c (Zof B G σ) H H' res v → Q v H') → r v [w] H1 Q) :
    tM1 r (tE c B W G (ev S.F x G)) (tE c B W G (ev S.F y G)) σ H Q := by
  obtain ⟨Su, R⟩ := hq
  show tE _ _ _ _ _ σ H fun v H1 => (∃ a, v = .str a) ∧ tE _ _ _ _ _ σ H1 fun w H2 => r v [w] H2 Q
  cases ea : ev S.F x G with
  | no => rw [ea] at R; exact False.elim R
  | ex n fs => rw [ea] at R; exact ⟨Su, R⟩
  | ok a =>
    rw [ea, Rs.bind_ok] at R
    cases eb : ev S.F y G with
    | no => rw [eb] at R; exact False.elim R
    | ex n fs => exact absurd eb (hn _ _)
    | ok b =>
      rw [eb, Rs.bind_ok] at R
      cases e : f a b with
      | no => rw [e] at R; exact R.elim
      | ex n fs => exact absurd e (hne _ _ _ _)
      | ok res =>
        rw [e] at R
        obtain ⟨s, es⟩ := hs a b res e
        obtain ⟨fa, da⟩ := a
        cases es
        exact ⟨Su, fun v H1 s1 rv => ⟨⟨_, rv.str⟩, Su.same s1, fun w H2 s2 rw' => hr _ b v w H2 Su.ztr (s1.trans s2) (rv.mono s2) (rw'.back s1) res e fun v H' s' rv => R v H' ((s1.trans s2).trans s') rv⟩⟩
theorem two_parts {S : Stat} {c : Cfg} {W : WX} {B : Addr → Prop} {G : Ev} {σ : L2.St} {H : Hp} {Q : VK} {x y : IE} {f : List (Fl × D) → Rs (Fl × D)} (hq : tE c B W G ((evs S.F (.cons x (.cons y .nil)) G).bind f) σ H Q) :
    tE c B W G ((ev S.F x G).bind fun a => (ev S.F y G).bind fun b => f [a, b]) σ H Q := by
  simp only [evs] at hq
  cases e1 : ev S.F x G with
  | no => rw [e1] at hq; exact hq
  | ex n fs => rw [e1] at hq; exact hq
  | ok a =>
    rw [e1] at hq
    cases e2 : ev S.F y G with
    | no => rw [e2] at hq; exact hq
    | ex n fs => rw [e2] at hq; exact hq
    | ok b => rw [e2] at hq; exact hq
theorem cot_dec {S : Stat} {sc : Scope} {e : Expr} {es : List Expr} (h : xtDec .cot S sc e = some es) : ∃ o a apos cpos, e = .Call (.Attribute o "count" apos) [a] [] cpos ∧ es = [o, a] ∧ (apos.endLine == cpos.line) = true ∧ notC0 o = true ∧ isNmE a = true := by
  unfold xtDec at h
  split at h
  all_goals first | contradiction | (cases h; done) | skip
  split at h
  · rename_i hc
    cases h
    simp only [Bool.and_eq_true, decide_eq_true_eq] at hc
    obtain ⟨⟨⟨rfl, h2⟩, h3⟩, h4⟩ := hc
    exact ⟨_, _, _, _, rfl, rfl, h2, h3, h4⟩
  · cases h
theorem cot_ok {S : Stat} {c : Cfg} : XtOk S c .cot := by
  intro X O W sc B G e es as hc C hd hp
  subst hc
  obtain ⟨o, a, apos, cpos, rfl, rfl, h1, h2, h3⟩ := cot_dec hd
  cases hp with
  | cons ok pe rest =>
    cases rest with
    | cons ok2 pe2 rest2 =>
      cases rest2
      rename_i x y
      refine (pe_m1 F.slot_str_count F.type_str_count mt_count pe pe2 (star_cons (okE_plain ok2)) (attrBase h2) h1).weak fun σ H Q hq => ?_
      have hq := two_parts hq
      refine x1_read (f := fun a b => xtD S.F .cot [a, b]) (nm_noex h3 ok2 G) hq (fun a b res e => ?_) (fun a b n fs e => ?_) fun a b v w H1 zt s1 ra rb res e q => ?_
      · obtain ⟨fa, a⟩ := a
        cases a with
        | str s => exact ⟨s, rfl⟩
        | _ => simp [xtD] at e
      · simp only [xtD] at e
        split at e <;> cases e
      · obtain ⟨fa, a⟩ := a
        obtain ⟨fb, b⟩ := b
        cases a with
        | str x =>
          cases b with
          | str z =>
            match z, rb, e with
            | [ch], rb, e =>
              cases e
              exact ⟨_, _, ra.str, by rw [rb.str], by rw [count_occ]; exact q _ _ (Same.refl H1) RepF.mkI⟩
            | [], _, e => simp [xtD] at e
            | _ :: _ :: _, _, e => simp [xtD] at e
          | _ => simp [xtD] at e
        | _ => simp [xtD] at e
/-! ### list * number -/
end
end RA
/-! W25: sets told by how often letters stand: plain laws. -/
namespace RA
open PySem PySem.Spec PyProof.Rows L2
/-! ### things in lists, nested -/
structure DeepF {α : Type} [DecidableEq α] (f : α → RA.D) : Prop where
  eqv : ∀ a b, PyData.eqv (toP (f a)) (toP (f b)) = decide (a = b)
  lay : ∀ a, PyData.canLay0 (toP (f a)) = true
  dep : ∀ a, PyData.depth (toP (f a)) ≤ 4
  nf : ∀ a, flatD (f a) = false
section
variable {α : Type} [DecidableEq α] {f : α → RA.D}
theorem toPs_map2 {f : α → RA.D} : ∀ {l : List α}, toPs (l.map f) = l.map fun a => toP (f a)
  | [] => rfl
  | x :: l => by rw [List.map_cons, List.map_cons, toPs, toPs_map2]
theorem DeepF.shaped (K : DeepF f) (l : List α) (a : α) : SeqAt.shaped (toP (.lst (l.map f))) = true ∧ SeqAt.shaped (toP (f a)) = true := by
  have d1 := dep_map (f := f) K.dep (l := l)
  have y1 := lay_map (f := f) K.lay (l := l)
  constructor
  · unfold SeqAt.shaped
    simp only [toP, PyData.canLay0, PyData.depth, y1, Bool.true_and, decide_eq_true_eq]
    omega
  · have := K.dep a
    unfold SeqAt.shaped
    rw [K.lay a, Bool.true_and, decide_eq_true_eq]
    omega
theorem DeepF.mem (K : DeepF f) (l : List α) (a : α) : memD (f a) (.lst (l.map f)) = .ok (decide (a ∈ l)) := by
  obtain ⟨h1, h2⟩ := K.shaped l a
  show (if (flatD (f a) && (l.map f).all flatD) = true then _ else if (SeqAt.shaped (toP (f a)) && SeqAt.shaped (toP (.lst (l.map f)))) = true then Rs.ok ((toPs (l.map f)).any fun y => PyData.eqv y (toP (f a))) else .no) = _
  rw [K.nf, Bool.false_and, if_neg Bool.false_ne_true, h1, h2, if_pos (by rfl), toPs_map2, List.any_map]
  congr 1
  rw [Bool.eq_iff_iff, List.any_eq_true, decide_eq_true_eq]
  constructor
  · rintro ⟨y, hy, e⟩
    have e : PyData.eqv (toP (f y)) (toP (f a)) = true := e
    rw [K.eqv, decide_eq_true_eq] at e
    rw [← e]; exact hy
  · intro h
    refine ⟨a, h, ?_⟩
    show PyData.eqv (toP (f a)) (toP (f a)) = true
    rw [K.eqv]; exact decide_eq_true rfl
theorem DeepF.nmem (K : DeepF f) (l : List α) (a : α) : cmpD .nmem (f a) (.lst (l.map f)) = .ok (!decide (a ∈ l)) := by
  show (memD _ _).bind _ = _
  rw [K.mem]; rfl
/-- where it first stands -/
def ixOf {α : Type} [DecidableEq α] (l : List α) (a : α) : Nat := l.idxOf a
theorem ixOf_lt {l : List α} {a : α} (h : a ∈ l) : ixOf l a < l.length := List.idxOf_lt_length_iff.mpr h
theorem ixOf_get {l : List α} {a : α} (h : a ∈ l) : l[ixOf l a]? = some a := by
  rw [List.getElem?_eq_getElem (ixOf_lt h)]
  exact congrArg some (List.getElem_idxOf (ixOf_lt h))
theorem ixOf_inj {l : List α} {a b : α} (ha : a ∈ l) (hb : b ∈ l) : ixOf l a = ixOf l b ↔ a = b := by
  refine ⟨fun e => ?_, fun e => by rw [e]⟩
  have h1 := ixOf_get ha
  rw [e, ixOf_get hb] at h1
  exact (Option.some.inj h1).symm
theorem DeepF.lix (K : DeepF f) {l : List α} {a : α} (h : a ∈ l) : lixD (l.map f) (f a) = .ok (.val, .int (ixOf l a : Nat)) := by
  show _ = Rs.ok (Fl.val, RA.D.int (l.idxOf a : Nat))
  have hl := List.idxOf_lt_length_iff.mpr h
  obtain ⟨h1, h2⟩ := K.shaped l a
  have h3 : (toPs (l.map f)).findIdx? (fun y => PyData.eqv y (toP (f a))) = some (l.idxOf a) := by
    rw [toPs_map2]
    refine List.findIdx?_eq_some_iff_getElem.mpr ⟨by rw [List.length_map]; exact hl, ?_, fun j hj => ?_⟩
    · rw [List.getElem_map, List.getElem_idxOf, K.eqv, decide_eq_true rfl]
    · rw [List.getElem_map, K.eqv]
      intro z
      have z' := of_decide_eq_true z
      have := List.not_of_lt_findIdx (p := (· == a)) (xs := l) (i := j) hj
      rw [z'] at this
      simp at this
  unfold lixD
  rw [K.nf, Bool.false_and, if_neg Bool.false_ne_true, h1, h2, h3]; rfl
end
theorem deepR : DeepF (fun r : List Nat => RA.D.tup (r.map (fun (n : Nat) => RA.D.int n))) := ⟨eqv_ROW, fun a => (lay_ROW a).1, fun a => Nat.le_trans (lay_ROW a).2 (by omega), fun _ => rfl⟩
theorem eqv_LROW (a b : List Nat) : PyData.eqv (toP (LROW a)) (toP (LROW b)) = decide (a = b) := by
  simp only [toP, PyData.eqv]
  exact eqv_map eqv_NI
theorem lay_LROW (a : List Nat) : PyData.canLay0 (toP (LROW a)) = true ∧ PyData.depth (toP (LROW a)) ≤ 2 := by
  constructor
  · simp only [toP, PyData.canLay0]
    exact lay_map fun a => by simp [toP, PyData.canLay0]
  · have := dep_map (f := (fun (n : Nat) => RA.D.int n)) (d := 1) (fun a => by simp [toP, PyData.depth]) (l := a)
    simp only [toP, PyData.depth]
    omega
theorem deepL : DeepF LROW := ⟨eqv_LROW, fun a => (lay_LROW a).1, fun a => Nat.le_trans (lay_LROW a).2 (by omega), fun _ => rfl⟩
/-- a number and a list of numbers -/
abbrev KEY : Nat × List Nat → RA.D := fun p => .tup [.int p.1, LROW p.2]
theorem deepK : DeepF KEY := by
  refine ⟨fun a b => ?_, fun a => ?_, fun a => ?_, fun _ => rfl⟩
  · have h := eqv_LROW a.2 b.2
    have h0 := eqv_NI a.1 b.1
    unfold KEY
    simp only [toP, toPs, PyData.eqv, PyData.eqvAll] at h h0 ⊢
    rw [h, h0, Bool.and_true, Bool.eq_iff_iff, Bool.and_eq_true, decide_eq_true_eq, decide_eq_true_eq, decide_eq_true_eq]
    exact ⟨fun z => Prod.ext z.1 z.2, fun z => by rw [z]; exact ⟨rfl, rfl⟩⟩
  · have h := (lay_LROW a.2).1
    unfold KEY
    simp only [toP, toPs, PyData.canLay0, PyData.canLayAll0] at h ⊢
    rw [h]; rfl
  · have h := (lay_LROW a.2).2
    unfold KEY
    simp only [toP, toPs, PyData.depth, PyData.depthAll] at h ⊢
    omega
/-! ### x 0, x 1, .. till the first that stood before -/
structure Rho {α : Type} (x : Nat → α) (l r : Nat) : Prop where
  pos : 0 < r
  nd : ∀ i < l + r, ∀ j < i, x i ≠ x j
  bk : x (l + r) = x l
section
variable {α β : Type} {x : Nat → α} {y : Nat → β} {l r l' r' : Nat}
theorem Rho.le (h : Rho x l r) (h' : Rho x l' r') : l' + r' ≤ l + r := Nat.le_of_not_lt fun z => h'.nd _ z l (by have := h.pos; omega) h.bk
theorem Rho.uniq (h : Rho x l r) (h' : Rho x l' r') : l = l' ∧ r = r' := by
  have s : l + r = l' + r' := by
    have := h.le h'
    have := h'.le h
    omega
  have p := h.pos
  have p' := h'.pos
  have k : x l = x l' := by rw [← h.bk, s, h'.bk]
  have : l = l' := by
    rcases Nat.lt_trichotomy l l' with q | q | q
    · exact absurd k.symm (h'.nd l' (by omega) l q)
    · exact q
    · exact absurd k (h.nd l (by omega) l' q)
  omega
end
/-- a way gone so many times -/
def ob (f : Nat → Nat) (x : Nat) : Nat → Nat
  | 0 => x
  | i + 1 => f (ob f x i)
theorem ob_add {f : Nat → Nat} {x i : Nat} : ∀ j, ob f x (i + j) = ob f (ob f x i) j
  | 0 => rfl
  | j + 1 => by
    show f (ob f x (i + j)) = f _
    rw [ob_add j]
theorem goes_rep {g : Nat → Nat → Nat} {r k : Nat} : ∀ i, goes g r (List.replicate i k) = ob (fun q => g q k) r i
  | 0 => rfl
  | i + 1 => by
    rw [List.replicate_succ', goes_snoc, goes_rep i]; rfl
def fold1 (z : Nat × Nat) (c : Nat) : Nat := if c < z.1 then c else z.1 + (c - z.1) % z.2
theorem Rho.fold {f : Nat → Nat} {x : Nat} {z : Nat × Nat} (h : Rho (ob f x) z.1 z.2) (c : Nat) : ob f x (fold1 z c) = ob f x c := by
  obtain ⟨l, r⟩ := z
  have hp : 0 < r := h.pos
  have hb : ob f x (l + r) = ob f x l := h.bk
  have key : ∀ d, ob f x (l + d % r) = ob f x (l + d) := fun d => by
    induction d using Nat.strongRecOn with
    | ind d ih =>
      by_cases q : d < r
      · rw [Nat.mod_eq_of_lt q]
      · rw [Nat.mod_eq_sub_mod (by omega), ih (d - r) (by omega), ob_add]
        have : l + d = l + r + (d - r) := by omega
        rw [this, ob_add, hb]
  unfold fold1
  dsimp only
  split
  · rfl
  · rw [key]; congr 1; omega
theorem fold1_lt {z : Nat × Nat} (h : 0 < z.2) (c : Nat) : fold1 z c < z.1 + z.2 := by
  unfold fold1
  have := Nat.mod_lt (c - z.1) h
  split <;> omega
/-! ### words by how often each letter stands -/
def wb : Nat → List Nat → List Nat
  | _, [] => []
  | k, c :: t => List.replicate c k ++ wb (k + 1) t
theorem wb_wd {m : Nat} : ∀ {t : List Nat} {k : Nat}, k + t.length ≤ m → Wd m (wb k t)
  | [], _, _ => Wd.nil
  | c :: t, k, h => by
    rw [List.length_cons] at h
    exact Wd.app (u := List.replicate c k) (fun x hx => by rw [List.eq_of_mem_replicate hx]; omega) (wb_wd (by omega))
theorem wb_count : ∀ {t : List Nat} {k j : Nat}, (wb k t).count j = if k ≤ j ∧ j < k + t.length then nth t (j - k) else 0
  | [], k, j => by
    unfold wb
    rw [List.count_nil, if_neg (by rw [List.length_nil]; omega)]
  | c :: t, k, j => by
    unfold wb
    rw [List.count_append, List.count_replicate, wb_count, List.length_cons]
    by_cases q : k = j
    · subst q
      rw [if_pos (beq_self_eq_true _), if_neg (by omega), if_pos (by omega), Nat.sub_self]; rfl
    · rw [if_neg (by simpa using q)]
      by_cases q2 : k ≤ j ∧ j < k + (t.length + 1)
      · rw [if_pos q2, if_pos (by omega), Nat.zero_add]
        have : j - k = (j - (k + 1)) + 1 := by omega
        rw [this]; rfl
      · rw [if_neg q2, if_neg (by omega)]
/-- letters that may be exchanged -/
def Cmt (m n : Nat) (g : Nat → Nat → Nat) : Prop := ∀ r < n, ∀ i < m, ∀ j < m, g (g r i) j = g (g r j) i
theorem cmt_of {m n : Nat} {g : Nat → Nat → Nat} (h : ∀ r < n, ∀ i < m, ∀ j < i, g (g r i) j = g (g r j) i) : Cmt m n g := fun r hr i hi j hj => by
  rcases Nat.lt_trichotomy i j with q | q | q
  · exact (h r hr j hj i q).symm
  · rw [q]
  · exact h r hr i hi j q
theorem Cmt.perm {m n : Nat} {g : Nat → Nat → Nat} (C : Clo m n g) (h : Cmt m n g) {u w : List Nat} (p : u.Perm w) : Wd m u → ∀ r < n, goes g r u = goes g r w := by
  induction p with
  | nil => intro _ r _; rfl
  | cons k _ ih => intro hu r hr; exact ih hu.tail _ (C r hr k hu.head)
  | swap i j l =>
    intro hu r hr
    show goes g (g (g r j) i) l = goes g (g (g r i) j) l
    rw [h r hr j hu.head i hu.tail.head]
  | trans p1 _ ih1 ih2 => intro hu r hr; rw [ih1 hu r hr, ih2 (fun x hx => hu x (p1.mem_iff.mpr hx)) r hr]
def cnts (m : Nat) (w : List Nat) : List Nat := (List.range m).map fun k => w.count k
theorem cnts_perm {m : Nat} {w : List Nat} (h : Wd m w) : w.Perm (wb 0 (cnts m w)) := by
  refine List.perm_iff_count.mpr fun j => ?_
  rw [wb_count]
  unfold cnts
  rw [List.length_map, List.length_range, Nat.zero_add]
  by_cases q : j < m
  · rw [if_pos ⟨Nat.zero_le _, q⟩, Nat.sub_zero]
    exact (nth_of (by rw [List.getElem?_map, List.getElem?_range q]; rfl)).symm
  · rw [if_neg (by omega)]
    exact List.count_eq_zero.mpr fun z => q (h j z)
theorem wb_cg {m n : Nat} {g : Nat → Nat → Nat} (C : Clo m n g) : ∀ {t t' : List Nat} {k r : Nat}, t.length = t'.length → k + t.length ≤ m → r < n → (∀ i < t.length, ∀ q < n, ob (fun q => g q (k + i)) q (nth t i) = ob (fun q => g q (k + i)) q (nth t' i)) → goes g r (wb k t) = goes g r (wb k t')
  | [], [], _, _, _, _, _, _ => rfl
  | [], _ :: _, _, _, e, _, _, _ => by cases e
  | _ :: _, [], _, _, e, _, _, _ => by cases e
  | c :: t, c' :: t', k, r, e, hm, hr, h => by
    rw [List.length_cons] at hm
    unfold wb
    rw [goes_app, goes_app]
    have h0 := h 0 (by rw [List.length_cons]; omega) r hr
    have h0 : ob (fun q => g q k) r c = ob (fun q => g q k) r c' := h0
    have hc : goes g r (List.replicate c' k) < n := C.goes hr fun x hx => by rw [List.eq_of_mem_replicate hx]; omega
    rw [goes_rep, goes_rep] at *
    rw [h0]
    refine wb_cg C (by simpa using e) (by omega) hc fun i hi q hq => ?_
    have := h (i + 1) (by rw [List.length_cons]; omega) q hq
    rw [show k + (i + 1) = k + 1 + i by omega] at this
    exact this
/-- where letters commute, each way comes round everywhere as it does from room 0 -/
theorem Cmt.ob {m n : Nat} {g : Nat → Nat → Nat} (C : Clo m n g) (h : Cmt m n g) (n0 : 0 < n) (rch : ∀ x < n, ∃ w, Wd m w ∧ goes g 0 w = x) {k i j : Nat} (hk : k < m) (e : RA.ob (fun q => g q k) 0 i = RA.ob (fun q => g q k) 0 j) : ∀ q < n, RA.ob (fun q => g q k) q i = RA.ob (fun q => g q k) q j := fun q hq => by
  obtain ⟨w, hw, rfl⟩ := rch q hq
  have wr : ∀ i, Wd m (List.replicate i k) := fun i x hx => by rw [List.eq_of_mem_replicate hx]; exact hk
  have one : ∀ i, RA.ob (fun q => g q k) (goes g 0 w) i = goes g (RA.ob (fun q => g q k) 0 i) w := fun i => by
    rw [← goes_rep, ← goes_rep, ← goes_app, ← goes_app]
    exact h.perm C List.perm_append_comm (hw.app (wr i)) 0 n0
  rw [one, one, e]
def told1 (m : Nat) (zs : List (Nat × Nat)) (w : List Nat) : List Nat := (List.range m).map fun k => fold1 (it zs k) (w.count k)
theorem told_goes {m n : Nat} {g : Nat → Nat → Nat} {zs : List (Nat × Nat)} (C : Clo m n g) (h : Cmt m n g) (n0 : 0 < n) (rch : ∀ x < n, ∃ w, Wd m w ∧ goes g 0 w = x) (zr : ∀ k < m, Rho (ob (fun q => g q k) 0) (it zs k).1 (it zs k).2) {w : List Nat} (hw : Wd m w) : goes g 0 (wb 0 (told1 m zs w)) = goes g 0 w := by
  rw [h.perm C (cnts_perm hw) hw 0 n0]
  refine wb_cg C (by unfold told1 cnts; rw [List.length_map, List.length_map]) (by unfold told1; rw [List.length_map, List.length_range]; omega) n0 fun i hi q hq => ?_
  unfold told1 at hi
  rw [List.length_map, List.length_range] at hi
  have e1 : nth (told1 m zs w) i = fold1 (it zs i) (w.count i) := nth_of (by unfold told1; rw [List.getElem?_map, List.getElem?_range hi]; rfl)
  have e2 : nth (cnts m w) i = w.count i := nth_of (by unfold cnts; rw [List.getElem?_map, List.getElem?_range hi]; rfl)
  rw [e1, e2, Nat.zero_add]
  exact h.ob C n0 rch hi ((zr i hi).fold _) q hq
/-! ### tables -/
def tabs (zs : List (Nat × Nat)) : List (List Nat) := zs.foldl (fun T z => ext1 (z.1 + z.2) T) [[]]
theorem tabs_snoc {zs : List (Nat × Nat)} {z : Nat × Nat} : tabs (zs ++ [z]) = ext1 (z.1 + z.2) (tabs zs) := by unfold tabs; rw [List.foldl_append]; rfl
theorem tabs_mem : ∀ (zs : List (Nat × Nat)) (t : List Nat), t ∈ tabs zs ↔ t.length = zs.length ∧ ∀ i < zs.length, nth t i < (it zs i).1 + (it zs i).2 := by
  refine snoc_ind (fun t => ?_) fun zs z ih u => ?_
  · constructor
    · intro h
      rw [List.mem_singleton.mp h]; exact ⟨rfl, fun i hi => absurd hi (Nat.not_lt_zero _)⟩
    · rintro ⟨e, _⟩
      rw [List.length_eq_zero_iff.mp e]; exact List.mem_singleton.mpr rfl
  · rw [tabs_snoc, ext1_mem]
    constructor
    · rintro ⟨t, ht, y, hy, rfl⟩
      obtain ⟨e, h⟩ := (ih t).mp ht
      refine ⟨by rw [List.length_append, List.length_append, e]; rfl, fun i hi => ?_⟩
      rw [List.length_append, List.length_singleton] at hi
      by_cases q : i < zs.length
      · rw [nth_app (by omega), it_app q]; exact h i q
      · have : i = zs.length := by omega
        subst this
        rw [it_at, ← e, nth_at]; exact hy
    · rintro ⟨e, h⟩
      rw [List.length_append, List.length_singleton] at e h
      have ne : u ≠ [] := fun q => by rw [q] at e; cases e
      obtain ⟨t, y, rfl⟩ : ∃ t y, u = t ++ [y] := ⟨u.dropLast, u.getLast ne, (List.dropLast_concat_getLast ne).symm⟩
      rw [List.length_append, List.length_singleton] at e
      have e : t.length = zs.length := by omega
      refine ⟨t, (ih t).mpr ⟨e, fun i hi => ?_⟩, y, ?_, rfl⟩
      · have := h i (by omega)
        rwa [nth_app (by omega), it_app hi] at this
      · have := h zs.length (by omega)
        rwa [it_at, ← e, nth_at] at this
theorem tabs_len {b : Nat} : ∀ zs : List (Nat × Nat), (∀ z ∈ zs, z.1 + z.2 ≤ b) → (tabs zs).length ≤ b ^ zs.length := by
  refine snoc_ind (fun _ => Nat.le_refl _) fun zs z ih h => ?_
  rw [tabs_snoc, ext1_len, List.length_append, List.length_singleton, Nat.pow_succ]
  exact Nat.mul_le_mul (ih fun z hz => h z (List.mem_append_left _ hz)) (h z (List.mem_append_right _ (List.mem_singleton.mpr rfl)))
/-! ### so many rounds part what can be parted -/
theorem numb_ex {α : Type} [Inhabited α] (keys : List α) : ∃ lots, Numb keys lots := by
  have : ∀ i ≤ keys.length, ∃ l lots, NumbI keys l lots i := fun i => by
    induction i with
    | zero => exact fun _ => ⟨[], [], NumbI.start⟩
    | succ i ih =>
      intro hi
      obtain ⟨l, lots, I⟩ := ih (by omega)
      by_cases h : it keys i ∈ l.map (·.1)
      · obtain ⟨p, hp, ep⟩ := List.mem_map.mp h
        exact ⟨l, _, I.step (y := p.2) (by rw [← ep]; exact hp)⟩
      · exact ⟨_, _, I.new h⟩
  obtain ⟨l, lots, I⟩ := this _ (Nat.le_refl _)
  exact ⟨lots, I.done⟩
section
variable {m n : Nat} {g : Nat → Nat → Nat} {mk : Nat → Bool}
theorem lots_ex (C : Clo m n g) : ∀ t, ∃ lots, Lots m n g mk t lots
  | 0 => by
    obtain ⟨lots, N⟩ := numb_ex ((List.range n).map mk)
    have e : ∀ p < n, it ((List.range n).map mk) p = mk p := fun p hp => it_of (by rw [List.getElem?_map, List.getElem?_range hp]; rfl)
    have ln : ((List.range n).map mk).length = n := by rw [List.length_map, List.length_range]
    refine ⟨lots, lots_zero (by rw [N.len, ln]) (fun p hp q hq => ?_) N.gr⟩
    rw [N.eq p (by rw [ln]; exact hp) q (by rw [ln]; exact hq), e p hp, e q hq]
  | t + 1 => by
    obtain ⟨lots, L⟩ := lots_ex C t
    obtain ⟨after, N⟩ := numb_ex ((List.range n).map fun r => (nth lots r, (List.range m).map fun k => nth lots (g r k)))
    have e : ∀ p < n, it ((List.range n).map fun r => (nth lots r, (List.range m).map fun k => nth lots (g r k))) p = (nth lots p, (List.range m).map fun k => nth lots (g p k)) := fun p hp => it_of (by rw [List.getElem?_map, List.getElem?_range hp]; rfl)
    have ln : ((List.range n).map fun r => (nth lots r, (List.range m).map fun k => nth lots (g r k))).length = n := by rw [List.length_map, List.length_range]
    refine ⟨after, lots_succ C L (by rw [N.len, ln]) (fun p hp q hq => ?_) N.gr⟩
    rw [N.eq p (by rw [ln]; exact hp) q (by rw [ln]; exact hq), e p hp, e q hq, Prod.mk.injEq]
    refine and_congr Iff.rfl ⟨fun z k hk => ?_, fun z => List.map_congr_left fun k hk => z k (List.mem_range.mp hk)⟩
    exact List.map_inj_left.mp z k (List.mem_range.mpr hk)
theorem moore (C : Clo m n g) (hn : 0 < n) {p q : Nat} (hp : p < n) (hq : q < n) (h : agree m g mk n p q) : alike m g mk p q := by
  have key : ∀ t, (∀ p < n, ∀ q < n, agree m g mk t p q → alike m g mk p q) ∨ ∃ lots, Lots m n g mk t lots ∧ t ≤ mx lots := fun t => by
    induction t with
    | zero =>
      obtain ⟨lots, L⟩ := lots_ex (mk := mk) C 0
      exact .inr ⟨lots, L, Nat.zero_le _⟩
    | succ t ih =>
      rcases ih with ih | ⟨lots, L, hl⟩
      · exact .inl fun p hp q hq h => ih p hp q hq fun w hw hwl => h w hw (by omega)
      · obtain ⟨after, A⟩ := lots_ex (mk := mk) C (t + 1)
        have gr := lots_grow L A hn
        by_cases e : mx after = mx lots
        · refine .inl fun p hp q hq h => (lots_stable C L A hn e p hp q hq).mp ((L.eq p hp q hq).mpr fun w hw hwl => h w hw (by omega))
        · exact .inr ⟨after, A, by omega⟩
  rcases key n with k | ⟨lots, L, hl⟩
  · exact k p hp q hq h
  · have := lots_lt L hn
    omega
end
end RA
/-! W26: rows and tables of told numbers, as the program makes them. -/
namespace RA
open PySem PySem.Spec PyProof.Rows L2
/- 349 row_of(machine, k); slots: 0=machine 1=k 2=seen 3=room; calls:  -/
def i_row_of : IS := (.seq (.own 2 (.dct .nil .nil)) (.seq (.set 3 (.k (.int 0))) (.seq (.whl (.cmp .nmem (.v 3) (.pk 2)) (.seq (.put 2 (.v 3) (.bi .len (.cons (.pk 2) .nil))) (.seq (.set 3 (.ix (.ix (.ix (.v 0) (.k (.int 1))) (.v 3)) (.v 1))) .nil))) (.seq (.ret (.tup (.cons (.ix (.pk 2) (.v 3)) (.cons (.b .sub (.bi .len (.cons (.pk 2) .nil)) (.ix (.pk 2) (.v 3))) .nil)))) .nil))))
def f_row_of : FT := fun _ _ => .no
def m_row_of : List RA.D → Rs (Bool × RA.D) := mk 2 4 f_row_of i_row_of
/- 350 word_by(letters, some); slots: 0=letters 1=some 2=sign 3=many; calls:  -/
def i_word_by : IS := (.seq (.ret (.me .join (.k (.str [])) (.cons (.comp (.tup [2, 3]) (.zip2 (.v 0) (.v 1)) (.k (.bl true)) (.b .mul (.v 2) (.v 3))) .nil))) .nil)
def f_word_by : FT := fun _ _ => .no
def m_word_by : List RA.D → Rs (Bool × RA.D) := mk 2 4 f_word_by i_word_by
/- 351 table_of(machine, rows); slots: 0=machine 1=rows 2=tuples 3=low 4=rest 5=longer 6=some 7=many; calls: 345=takes_word 350=word_by -/
def i_table_of : IS := (.seq (.set 2 (.lst (.cons (.tup .nil) .nil))) (.seq (.for_ (.tup [3, 4]) (.ex (.v 1)) (.seq (.own 5 (.lst .nil)) (.seq (.for_ (.one 6) (.ex (.v 2)) (.seq (.for_ (.one 7) (.rng1 (.b .add (.v 3) (.v 4))) (.seq (.app 5 (.xt .ctu (.cons (.v 6) (.cons (.tup (.cons (.v 7) .nil)) .nil)))) .nil)) .nil)) (.seq (.frz 5) (.seq (.set 2 (.v 5)) .nil))))) (.seq (.ret (.comp (.one 6) (.ex (.v 2)) (.call 345 (.cons (.v 0) (.cons (.call 350 (.cons (.ix (.v 0) (.k (.int 0))) (.cons (.v 6) .nil))) .nil))) (.v 6))) .nil)))
def f_table_of : FT := fun n ds => match n, ds with | 345, ds => m_takes_word ds | 350, ds => m_word_by ds | _, _ => .no
@[simp] theorem f_table_of_345 (ds : List RA.D) : f_table_of 345 ds = m_takes_word ds := (rfl)
@[simp] theorem f_table_of_350 (ds : List RA.D) : f_table_of 350 ds = m_word_by ds := (rfl)
def m_table_of : List RA.D → Rs (Bool × RA.D) := mk 2 8 f_table_of i_table_of
local macro_rules | `(tactic| dsimp! [$xs,*]) => `(tactic| simp (disch := first | assumption | omega | (simp only [List.length_map, List.length_append, List.length_cons, List.length_nil, List.length_range, List.length_set]; omega) | decide | rfl) only [tstO_eq, x_seq, x_set, x_own, x_do, x_if, x_for, x_whl, x_ret, x_retN, x_pass, x_brk, x_cnt, x_rse, x_fgt, x_frz, x_retp, x_app, x_aug, x_unp, x_put, e_v, e_pk, e_k, e_gl, e_b, e_neg, e_cmp, e_and, e_or, e_not, e_ife, e_tup, e_lst, e_dct, e_dct1, e_lset, e_ix, e_sl, e_rv, rv_lst, e_out, e_bi, e_me, e_call, es_nil, es_cons, i_ex, i_rng1, i_rng2, i_zip, i_rev, valO_ok, pkO_ok, glO_ok, negO_ok, frzO_ok, retO_ok, augO_add, augO_sub, walkO_lst, walkO_tup, walkO_str, zipO_ok, zipI_ok, revO_ok, asB_ok, items_lst, items_tup, items_str, bindT_one, bindT_tup, setAll_nil, setAll_cons, forget_nil, forget_cons, prt_int, prt_out, isOut, keepOk_nil, keepOk_cons, recv_str, b_add, b_sub, c_lt, c_le, c_gt, c_ge, c_ltS, c_gtS, c_eqI, c_neI, c_eqS, c_neS, c_eqB, c_neB, c_isn, c_isnt, c_memS, c_nmemS, sl_lst, len_lst, len_tup, is_str, is_intI, is_boolI, is_boolB, tuple_lst, list_lst, list_tup, find_one, seqO_nx, seqO_no, seqO_rt, seqO_ex, seqO_bk, seqO_ct, seqO_seqO, seqO_ite, x_nil, sat_nx, sat_rt, sat_ex, sat_thru, sat_thru_ct, sat_nxt, sat_t1, sat_t1c, sat_t1r, sat_t1e, Rs.bind_ok, Rs.bind_ex, Rs.out_ok, Rs.out_ex, List.set_cons_succ, List.set_cons_zero, List.getElem?_cons_succ, List.getElem?_cons_zero, List.map_cons, List.map_nil, List.cons_append, List.nil_append, startG, List.reduceReplicate, List.length_cons, List.length_nil, Nat.reduceAdd, Nat.reduceSub, Nat.zero_add, Nat.add_zero, Nat.zero_le, Nat.reduceLeDiff, List.append_nil, reduceCtorEq, if_true, if_false, ite_true, ite_false, ne_eq, not_false_eq_true, not_true_eq_false, decide_true, decide_false, decide_not, Bool.not_true, Bool.not_false, Bool.and_true, Bool.true_and, Bool.and_self, Bool.false_eq_true, and_self, and_true, true_and, decide_eq_true_eq, Int.reduceEq, Int.cast_ofNat_Int, Int.reduceNe, Int.reduceLT, Int.reduceLE, Int.reduceNeg, Int.reduceAdd, Int.reduceSub, tgSlots, freeAt, List.all_cons, List.all_nil, isNon_non, isNon_str, isNon_int, isNon_bl, isNon_tup, isNon_lst, isNon_opq, fin_nx, fin_rt, fin_ex, e_xt, Bool.true_eq_false, eq_self, isc_non, isc_opq, x_xs, x_try, tryO_nx, tryO_rt, tryO_ex, hdG_as, hdG_cst, List.contains_cons, List.contains_nil, Nat.reduceBEq, beq_self_eq_true, up_nil, up_cons, tn_nx, tn_ct, tn_bk, tn_rt, tn_ex, b_fdiv, b_mod, max_two, min_two, ixl, ixt, ixl_last, ixl_zero, ixt_zero, ixs, ixs_last, ixT0, ixT1, ixT12, ixT22, ixL0, ixL1, ixM0, ixM1, ixM2, lenS, slS, rvS, catS, appL, unp2, unp3, r1, r2, r2one, e_comp2, it_nth, nat1, nat1l, natA, natM, natD, natR, natS, natS1, natE, natL, natLe, natL0, natN0, nat0, max_nats, Bool.not_eq_true', Bool.not_eq_false', List.length_map, List.length_append, List.length_range, Bool.true_or, Bool.false_or, Bool.or_true, Bool.or_false, Bool.and_false, Bool.false_and, Bool.or_self, decide_eq_false_iff_not, Nat.lt_irrefl, Bool.not_eq_eq_eq_not, not_true, not_false_iff, Nat.not_lt_zero, f_table_of_345, f_table_of_350, $xs,*])
section
variable {s : List Nat} {rows : List (List Nat)} {marks : List Bool}
/-- the places of the first ones -/
def sq (x : Nat → Nat) (i : Nat) : List (Nat × Nat) := (List.range i).map fun j => (x j, j)
theorem sq_len {x : Nat → Nat} {i : Nat} : (sq x i).length = i := by unfold sq; rw [List.length_map, List.length_range]
theorem sq_fst {x : Nat → Nat} {i : Nat} : (sq x i).map (·.1) = (List.range i).map x := by unfold sq; rw [List.map_map]; rfl
theorem sq_snoc {x : Nat → Nat} {i : Nat} : sq x (i + 1) = sq x i ++ [(x i, i)] := by unfold sq; rw [List.range_succ, List.map_append]; rfl
theorem sq_nd {x : Nat → Nat} {i : Nat} (h : ∀ a < i, ∀ b < a, x a ≠ x b) : ((sq x i).map (·.1)).Nodup := by
  rw [sq_fst]
  unfold List.Nodup
  rw [List.pairwise_map]
  refine List.Pairwise.imp_of_mem (fun {a b} ha hb hab e => ?_) (List.pairwise_lt_range (n := i))
  exact h b (List.mem_range.mp hb) a hab e.symm
theorem sq_le {x : Nat → Nat} {i n : Nat} (h : ∀ a < i, ∀ b < a, x a ≠ x b) (hn : ∀ j, x j < n) : i ≤ n := by
  have := nodupLe n _ (sq_nd h) fun y hy => by
    rw [sq_fst] at hy
    obtain ⟨j, _, rfl⟩ := List.mem_map.mp hy
    exact hn j
  rwa [List.length_map, sq_len] at this
abbrev orb (rows : List (List Nat)) (k : Nat) : Nat → Nat := ob (fun q => go rows q k) 0
theorem orb_lt (M : Mach s rows marks) {k : Nat} (hk : k < s.length) : ∀ i, orb rows k i < rows.length
  | 0 => M.pos
  | i + 1 => M.rws.clo _ (orb_lt M hk i) k hk
theorem row_of_ok (M : Mach s rows marks) (hn : rows.length ≤ 1000) {k : Nat} (hk : k < s.length) : ∃ z : Nat × Nat, m_row_of [mD s rows marks, .int k] = .ok (false, PE2 z) ∧ Rho (orb rows k) z.1 z.2 ∧ z.1 + z.2 ≤ rows.length := by
  refine mk_sat (R := fun r => ∃ z : Nat × Nat, r = .ok (false, PE2 z) ∧ Rho (orb rows k) z.1 z.2 ∧ z.1 + z.2 ≤ rows.length) rfl ?_
  unfold i_row_of
  have lt := orb_lt M hk
  generalize ex : orb rows k = x at lt
  dsimp! [up_nil]
  refine whl_at (fun G0 v G => ∃ i, G = up G0 [(2, some (true, .dct (kv (fun (n : Nat) => RA.D.int n) (dN (sq x i))))), (3, some (false, .int (x i : Nat)))] ∧ (∀ a < i, ∀ b < a, x a ≠ x b) ∧ v + i = rows.length) rows.length (by omega) ⟨0, by rw [← ex]; rfl, fun a h => absurd h (Nat.not_lt_zero _), rfl⟩ ?_
  rintro v G ⟨i, rfl, H, hv⟩
  have nd := sq_nd H
  have g1 : cmpD .nmem (.int (x i : Nat)) (.dct (kv (fun (n : Nat) => RA.D.int n) (dN (sq x i)))) = .ok (!decide (x i ∈ (List.range i).map x)) := by
    have := kv_nmem keyN (l := dN (sq x i)) (a := x i)
    rw [dN_fst, sq_fst] at this; exact this
  by_cases h : x i ∈ (List.range i).map x
  · refine .inl ⟨by dsimp! [g1, h], ?_⟩
    obtain ⟨j, hj, e⟩ := List.mem_map.mp h
    have hj := List.mem_range.mp hj
    have hm : (x i, j) ∈ sq x i := List.mem_map.mpr ⟨j, List.mem_range.mpr hj, by rw [e]⟩
    have g2 : ixD (.dct (kv (fun (n : Nat) => RA.D.int n) (dN (sq x i)))) (.int (x i : Nat)) = .ok (.int (j : Nat)) := kv_ix keyN (dN_lk nd hm)
    have g4 := keyN.len (dN (sq x i))
    rw [dN_len, sq_len] at g4
    dsimp! [g2, g4]
    have ij : j + (i - j) = i := by omega
    exact ⟨(j, i - j), rfl, ⟨Nat.sub_pos_of_lt hj, fun a ha b hb => H a (Nat.lt_of_lt_of_le ha (Nat.le_of_eq ij)) b hb, (congrArg x ij).trans e.symm⟩, Nat.le_trans (Nat.le_of_eq ij) (by omega)⟩
  · refine .inr ⟨by dsimp! [g1, h], ?_⟩
    have H2 : ∀ a < i + 1, ∀ b < a, x a ≠ x b := fun a ha b hb z => by
      by_cases q : a < i
      · exact H a q b hb z
      · have : a = i := by omega
        subst this
        exact h (List.mem_map.mpr ⟨b, List.mem_range.mpr hb, z.symm⟩)
    have li := sq_le H2 lt
    have ea : dN (sq x i) ++ [(x i, RA.D.int (i : Nat))] = dN (sq x (i + 1)) := by rw [sq_snoc, dN_app]; rfl
    have dl : (dN (sq x i)).length < sizeLine := line_lt (by rw [dN_len, sq_len]; omega)
    have g3 : ∀ G, putO G 2 (.ok (.val, .int (i : Nat))) (.ok (.val, .int (x i : Nat))) (some (some (true, .dct (kv (fun (n : Nat) => RA.D.int n) (dN (sq x i)))))) = .nx (G.set 2 (some (true, .dct (kv (fun (n : Nat) => RA.D.int n) (dN (sq x (i + 1))))))) := fun G => by
      rw [kv_putO keyN dl (by rw [dN_fst, sq_fst]; exact h), if_neg (by decide), ea]
    have g4 := keyN.len (dN (sq x i))
    rw [dN_len, sq_len] at g4
    obtain ⟨h1, h2⟩ := M.rws.row _ (lt i)
    have lk : k < (it rows (x i)).length := by omega
    have lx := lt i
    have xs : nth (it rows (x i)) k = x (i + 1) := by rw [← ex]; rfl
    dsimp! [g3, g4, xs]
    exact ⟨v - 1, by omega, i + 1, rfl, H2, by omega⟩
/-! words by how often each letter stands -/
theorem strs_map {α : Type} {f : α → List Nat} : ∀ {l : List α}, strsOf (l.map fun a => RA.D.str (f a)) = some (l.map f)
  | [] => rfl
  | a :: l => by
    show (strsOf (l.map fun a => RA.D.str (f a))).map (f a :: ·) = _
    rw [strs_map]; rfl
theorem joinD_flat : ∀ l : List (List Nat), joinD l = l.flatten
  | [] => rfl
  | a :: l => by
    show a ++ joinD l = _
    rw [joinD_flat l]; rfl
theorem sumLen_flat : ∀ l : List (List Nat), sumLen l = l.flatten.length
  | [] => rfl
  | a :: l => by
    show a.length + sumLen l = _
    rw [sumLen_flat l, List.flatten_cons, List.length_append]
theorem join_map {α : Type} {f : α → List Nat} {l : List α} (h : (l.map f).flatten.length ≤ 1000000) : meD .join (.str []) [.lst (l.map fun a => RA.D.str (f a))] = .ok (.val, .str (l.map f).flatten) := by
  show (match strsOf (l.map fun a => RA.D.str (f a)) with | some ss => if sumLen ss ≤ 1000000 then Rs.ok (Fl.val, RA.D.str (joinD ss)) else .no | none => .no) = _
  rw [strs_map]
  show (if _ then _ else _) = _
  rw [sumLen_flat, if_pos h, joinD_flat]
theorem wb_len : ∀ {t : List Nat} {k : Nat}, (wb k t).length = t.sum
  | [], _ => rfl
  | c :: t, k => by
    unfold wb
    rw [List.length_append, List.length_replicate, wb_len, List.sum_cons]
theorem wb_sp {s : List Nat} : ∀ {t : List Nat} {k : Nat}, k + t.length ≤ s.length → (((s.drop k).zip t).map fun p => (List.replicate p.2 [p.1]).flatten).flatten = sp s (wb k t)
  | [], k, _ => by
    rw [List.zip_nil_right]; rfl
  | c :: t, k, h => by
    rw [List.length_cons] at h
    have hk : k < s.length := by omega
    rw [List.drop_eq_getElem_cons hk, List.zip_cons_cons, List.map_cons, List.flatten_cons, wb_sp (by omega)]
    show _ = sp s (List.replicate c k ++ wb (k + 1) t)
    rw [sp_app]
    congr 1
    have : nth s k = s[k] := nth_of (List.getElem?_eq_getElem hk)
    rw [← this]
    unfold sp
    rw [List.map_replicate, List.flatten_replicate_singleton]
theorem sum_le {b : Nat} : ∀ {t : List Nat}, (∀ c ∈ t, c ≤ b) → t.sum ≤ t.length * b
  | [], _ => Nat.zero_le _
  | c :: t, h => by
    rw [List.sum_cons, List.length_cons, Nat.succ_mul]
    have h1 := h c List.mem_cons_self
    have h2 := sum_le fun x hx => h x (List.mem_cons_of_mem _ hx)
    omega
/-- the joined word -/
theorem wb_join {t : List Nat} (L : Ltrs s) (ht : t.length = s.length) (hc : ∀ c ∈ t, c ≤ 1000) : meD .join (.str []) [.lst ((s.zip t).map fun p => RA.D.str (List.replicate p.2 [p.1]).flatten)] = .ok (.val, .str (sp s (wb 0 t))) := by
  have e := wb_sp (s := s) (t := t) (k := 0) (by omega)
  rw [List.drop_zero] at e
  have sl := L.le
  have := sum_le hc
  have h3 : t.length * 1000 ≤ 3000 := by omega
  rw [join_map (f := fun p : Nat × Nat => (List.replicate p.2 [p.1]).flatten) (by rw [e, sp_len, wb_len]; omega), e]
theorem b_repN {c n : Nat} (h : n ≤ 1000) : binD .mul (.str [c]) (.int (n : Nat)) = .ok (.val, .str (List.replicate n [c]).flatten) := by
  rw [b_rep ⟨by omega, by rw [List.length_singleton]; omega, by omega⟩]; rfl
theorem word_by_ok {t : List Nat} (L : Ltrs s) (ht : t.length = s.length) (hc : ∀ c ∈ t, c ≤ 1000) : m_word_by [.str s, (fun r : List Nat => RA.D.tup (r.map (fun (n : Nat) => RA.D.int n))) t] = .ok (false, .str (sp s (wb 0 t))) := by
  refine mk_sat (R := fun r => r = .ok (false, .str (sp s (wb 0 t)))) rfl ?_
  unfold i_word_by
  have sl := L.le
  have zl : (s.zip t).length = s.length := by rw [List.length_zip]; omega
  dsimp! [zip_maps]
  rw [comp_of (xs := s.zip t) (fun p => .str (List.replicate p.2 [p.1]).flatten) rfl (by omega) fun j x hx hj => ⟨_, rfl, .val, by decide, by
    have hx2 : x.2 ≤ 1000 := hc _ (List.of_mem_zip (List.mem_of_getElem? hx)).2
    dsimp! [b_repN hx2]⟩]
  dsimp! [wb_join L ht hc]
theorem ext1_step {z : Nat} {T : List (List Nat)} {i : Nat} {t : List Nat} (ht : T[i]? = some t) : ext1 z (T.take (i + 1)) = ext1 z (T.take i) ++ (List.range z).map fun y => t ++ [y] := by
  rw [take_snoc ht]
  unfold ext1
  rw [List.flatMap_append, List.flatMap_singleton]
def accT (rows : List (List Nat)) (marks : List Bool) (t : List Nat) : Bool := it marks (goes (go rows) 0 (wb 0 t))
theorem tabs_pow {zs : List (Nat × Nat)} {i : Nat} (h : zs.length ≤ 3) (hz : ∀ z ∈ zs, z.1 + z.2 ≤ 8) : (tabs (zs.take i)).length ≤ 512 := by
  refine Nat.le_trans (tabs_len (b := 8) _ fun z hz2 => hz z (List.mem_of_mem_take hz2)) ?_
  refine Nat.le_trans (Nat.pow_le_pow_right (by omega) (show (zs.take i).length ≤ 3 by rw [List.length_take]; omega)) (by decide)
theorem tab_mem {zs : List (Nat × Nat)} {t : List Nat} (hz : ∀ z ∈ zs, z.1 + z.2 ≤ 8) (h : t ∈ tabs zs) : t.length = zs.length ∧ ∀ c ∈ t, c ≤ 1000 := by
  obtain ⟨h1, h2⟩ := (tabs_mem zs t).mp h
  refine ⟨h1, fun c hc => ?_⟩
  obtain ⟨i, hi, rfl⟩ := nth_ix hc
  have := h2 i (by omega)
  have := hz _ (it_mem (show i < zs.length by omega))
  omega
theorem table_of_ok (M : Mach s rows marks) {zs : List (Nat × Nat)} (hl : zs.length = s.length) (hz : ∀ z ∈ zs, z.1 + z.2 ≤ 8) : m_table_of [mD s rows marks, .lst (zs.map PE2)] = .ok (true, .lst (((tabs zs).filter (accT rows marks)).map (fun r : List Nat => RA.D.tup (r.map (fun (n : Nat) => RA.D.int n))))) := by
  refine mk_sat (R := fun r => r = .ok (true, .lst (((tabs zs).filter (accT rows marks)).map (fun r : List Nat => RA.D.tup (r.map (fun (n : Nat) => RA.D.int n)))))) rfl ?_
  unfold i_table_of
  have L := M.ltrs
  have sl := L.le
  dsimp! [up_nil]
  refine for_map (fun G0 j G => ∃ (t3 t4 t5 t7 : Option (Bool × RA.D)) (t6 : Option RA.D), G = up G0 [(2, some (false, .lst ((tabs (zs.take j)).map (fun r : List Nat => RA.D.tup (r.map (fun (n : Nat) => RA.D.int n)))))), (3, t3), (4, t4), (5, t5), (6, t6.map fun d => (false, d)), (7, t7)]) ⟨none, none, none, none, none, rfl⟩ ?_ ?_
  · rintro j z G hzj hj ⟨t3, t4, t5, t7, t6, rfl⟩
    obtain ⟨z1, z2⟩ := z
    refine ⟨_, rfl, ?_⟩
    have t1 := tabs_pow (i := j) (by omega) hz
    have e2 : tabs (zs.take (j + 1)) = ext1 (z1 + z2) (tabs (zs.take j)) := by rw [take_snoc hzj, tabs_snoc]
    have t2 := tabs_pow (i := j + 1) (by omega) hz
    rw [e2] at t2
    rw [e2]
    have tl3 : ∀ t ∈ tabs (zs.take j), t.length ≤ 1000 := fun t ht => by
      have := ((tabs_mem _ t).mp ht).1
      rw [this, List.length_take]; omega
    generalize tabs (zs.take j) = T at t1 t2 tl3
    have z8 : z1 + z2 ≤ 8 := hz _ (List.mem_of_getElem? hzj)
    rw [ext1_len] at t2
    dsimp! [up_nil]
    refine for_map (fun G0 i G => ∃ (t7 : Option (Bool × RA.D)) (t6 : Option RA.D), G = up G0 [(5, some (true, .lst ((ext1 (z1 + z2) (T.take i)).map (fun r : List Nat => RA.D.tup (r.map (fun (n : Nat) => RA.D.int n)))))), (6, t6.map fun d => (false, d)), (7, t7)]) ⟨t7, t6, rfl⟩ ?_ ?_
    · rintro i t G ht hi ⟨t7, t6, rfl⟩
      refine ⟨_, rfl, ?_⟩
      have el : (ext1 (z1 + z2) (T.take i)).length ≤ 512 := by
        rw [ext1_len, List.length_take]
        exact Nat.le_trans (Nat.mul_le_mul_right _ (Nat.min_le_right _ _)) t2
      rw [ext1_step ht]
      dsimp! [up_nil]
      refine for_rng (fun G0 y G => ∃ (t7 : Option (Bool × RA.D)), G = up G0 [(5, some (true, .lst ((ext1 (z1 + z2) (T.take i) ++ (List.range y).map fun y => t ++ [y]).map (fun r : List Nat => RA.D.tup (r.map (fun (n : Nat) => RA.D.int n)))))), (7, t7)]) ⟨t7, by rw [List.range_zero, List.map_nil, List.append_nil]; rfl⟩ ?_ ?_
      · rintro y G hy ⟨t7, rfl⟩
        refine ⟨_, rfl, ?_⟩
        have tl := tl3 t (List.mem_of_getElem? ht)
        have c1 : ∀ F, xtD F .ctu [(.val, .tup (t.map (fun (n : Nat) => RA.D.int n))), (.val, .tup [.int (y : Nat)])] = .ok (.val, .tup ((t ++ [y]).map (fun (n : Nat) => RA.D.int n))) := fun F => ctu_maps (m := [y]) (by rw [List.length_singleton]; omega)
        dsimp! [c1]
        exact ⟨_, by simp only [List.range_succ, List.map_append, List.append_assoc, List.map_cons, List.map_nil]; rfl⟩
      · rintro G ⟨t7, rfl⟩
        dsimp! [up_nil]
        exact ⟨_, some ((fun r : List Nat => RA.D.tup (r.map (fun (n : Nat) => RA.D.int n))) t), rfl⟩
    · rintro G ⟨t7, t6, rfl⟩
      rw [List.take_length]
      dsimp! [up_nil]
      exact ⟨_, _, _, _, t6, rfl⟩
  · rintro G ⟨t3, t4, t5, t7, t6, rfl⟩
    rw [List.take_length]
    have t2 := tabs_pow (i := zs.length) (by omega) hz
    rw [List.take_length] at t2
    dsimp! [up_nil]
    rw [comp_if (xs := tabs zs) (accT rows marks) (fun r : List Nat => RA.D.tup (r.map (fun (n : Nat) => RA.D.int n))) (by cases t6 <;> rfl) (by omega) fun j x hx hj => ⟨_, rfl, by
      obtain ⟨h1, h2⟩ := tab_mem hz (List.mem_of_getElem? hx)
      have w := word_by_ok L (by omega) h2
      have tk := takes_word_ok M (w := wb 0 x) (wb_wd (by omega))
      dsimp! [w, tk]
      rfl, fun _ => ⟨.val, by decide, by dsimp! [up_nil]⟩⟩]
    dsimp! [up_nil]
end
end RA
/-! W27: rows and tables of told numbers, as the laws make them. -/
namespace RA
open PySem PySem.Spec PyProof.Rows L2
/- 117 _law_takes(_law_machine_here, _law_word_here); slots: 0=_law_machine_here 1=_law_word_here; calls: 27=law_after -/
def i_law_takes : IS := (.seq (.ret (.ix (.ix (.v 0) (.k (.int 2))) (.call 27 (.cons (.v 0) (.cons (.k (.int 0)) (.cons (.v 1) .nil)))))) .nil)
def f_law_takes : FT := fun n ds => match n, ds with | 27, ds => m_law_after ds | _, _ => .no
@[simp] theorem f_law_takes_27 (ds : List RA.D) : f_law_takes 27 ds = m_law_after ds := (rfl)
def m_law_takes : List RA.D → Rs (Bool × RA.D) := mk 2 2 f_law_takes i_law_takes
/- 355 _law_table(_law_machine_here, _law_rows); slots: 0=_law_machine_here 1=_law_rows 2=_law_tuples 3=_law_found 4=_law_some 5=_law_low 6=_law_rest 7=_law_longer 8=_law_word_here 9=_law_many 10=_law_sign; calls: 117=law_takes -/
def i_law_table_2 : IS := (.seq (.set 2 (.lst (.cons (.tup .nil) .nil))) (.seq (.for_ (.tup [5, 6]) (.ex (.v 1)) (.seq (.set 7 (.lst .nil)) (.seq (.for_ (.one 4) (.ex (.v 2)) (.seq (.set 7 (.xt .cat (.cons (.v 7) (.cons (.comp (.one 9) (.rng1 (.b .add (.v 5) (.v 6))) (.k (.bl true)) (.xt .ctu (.cons (.v 4) (.cons (.tup (.cons (.v 9) .nil)) .nil)))) .nil)))) .nil)) (.seq (.set 2 (.v 7)) .nil)))) (.seq (.own 3 (.lst .nil)) (.seq (.for_ (.one 4) (.ex (.v 2)) (.seq (.set 8 (.me .join (.k (.str [])) (.cons (.comp (.tup [10, 9]) (.zip2 (.ix (.v 0) (.k (.int 0))) (.v 4)) (.k (.bl true)) (.b .mul (.v 10) (.v 9))) .nil))) (.seq (.if_ (.call 117 (.cons (.v 0) (.cons (.v 8) .nil))) (.seq (.app 3 (.v 4)) .nil) .nil) .nil))) (.seq (.retp 3) .nil)))))
def f_law_table_2 : FT := fun n ds => match n, ds with | 117, ds => m_law_takes ds | _, _ => .no
@[simp] theorem f_law_table_2_117 (ds : List RA.D) : f_law_table_2 117 ds = m_law_takes ds := (rfl)
def m_law_table_2 : List RA.D → Rs (Bool × RA.D) := mk 2 11 f_law_table_2 i_law_table_2
/- 371 _law_told_by(_law_rows, _law_letters_here, _law_word_here); slots: 0=_law_rows 1=_law_letters_here 2=_law_word_here 3=_law_told 4=_law_sign 5=_law_row 6=_law_many; calls:  -/
def i_law_told_by_2 : IS := (.seq (.own 3 (.lst .nil)) (.seq (.for_ (.tup [4, 5]) (.zip2 (.v 1) (.v 0)) (.seq (.set 6 (.xt .cot (.cons (.v 2) (.cons (.v 4) .nil)))) (.seq (.if_ (.cmp .ge (.v 6) (.ix (.v 5) (.k (.int 0)))) (.seq (.set 6 (.b .add (.ix (.v 5) (.k (.int 0))) (.b .mod (.b .sub (.v 6) (.ix (.v 5) (.k (.int 0)))) (.ix (.v 5) (.k (.int 1)))))) .nil) .nil) (.seq (.app 3 (.v 6)) .nil)))) (.seq (.ret (.bi .tuple (.cons (.pk 3) .nil))) .nil)))
def f_law_told_by_2 : FT := fun _ _ => .no
def m_law_told_by_2 : List RA.D → Rs (Bool × RA.D) := mk 3 7 f_law_told_by_2 i_law_told_by_2
/- 372 _law_beginnings(_law_machine_here, _law_rows, _law_numbers, _law_word_here); slots: 0=_law_machine_here 1=_law_rows 2=_law_numbers 3=_law_word_here 4=_law_room 5=_law_size; calls: 27=law_after 371=law_told_by_2 -/
def i_law_beginnings_2 : IS := (.seq (.set 4 (.k (.int 0))) (.seq (.for_ (.one 5) (.rng1 (.b .add (.bi .len (.cons (.v 3) .nil)) (.k (.int 1)))) (.seq (.if_ (.cmp .ne (.ix (.ix (.v 0) (.k (.int 2))) (.v 4)) (.cmp .mem (.call 371 (.cons (.v 1) (.cons (.ix (.v 0) (.k (.int 0))) (.cons (.sl (.v 3) .out (.v 5)) .nil)))) (.v 2))) (.seq (.ret (.k (.bl false))) .nil) .nil) (.seq (.if_ (.cmp .lt (.v 5) (.bi .len (.cons (.v 3) .nil))) (.seq (.set 4 (.call 27 (.cons (.v 0) (.cons (.v 4) (.cons (.ix (.v 3) (.v 5)) .nil))))) .nil) .nil) .nil))) (.seq (.ret (.k (.bl true))) .nil)))
def f_law_beginnings_2 : FT := fun n ds => match n, ds with | 27, ds => m_law_after ds | 371, ds => m_law_told_by_2 ds | _, _ => .no
@[simp] theorem f_law_beginnings_2_27 (ds : List RA.D) : f_law_beginnings_2 27 ds = m_law_after ds := (rfl)
@[simp] theorem f_law_beginnings_2_371 (ds : List RA.D) : f_law_beginnings_2 371 ds = m_law_told_by_2 ds := (rfl)
def m_law_beginnings_2 : List RA.D → Rs (Bool × RA.D) := mk 4 6 f_law_beginnings_2 i_law_beginnings_2
/- 358 _law_alike_rooms(_law_machine_here); slots: 0=_law_machine_here 1=_law_lots_here 2=_law_k 3=_law_keys 4=_law_mark 5=_law_j 6=_law_key 7=_law_goal; calls:  -/
def i_law_alike_rooms : IS := (.seq (.set 1 (.comp (.one 4) (.ex (.ix (.v 0) (.k (.int 2)))) (.k (.bl true)) (.bi .int (.cons (.v 4) .nil)))) (.seq (.for_ (.one 2) (.rng1 (.bi .len (.cons (.v 1) .nil))) (.seq (.set 3 (.comp (.one 5) (.rng1 (.bi .len (.cons (.v 1) .nil))) (.k (.bl true)) (.tup (.cons (.ix (.v 1) (.v 5)) (.cons (.comp (.one 7) (.ex (.ix (.ix (.v 0) (.k (.int 1))) (.v 5))) (.k (.bl true)) (.ix (.v 1) (.v 7))) .nil))))) (.seq (.set 1 (.comp (.one 6) (.ex (.v 3)) (.k (.bl true)) (.lix (.v 3) (.v 6)))) .nil))) (.seq (.ret (.v 1)) .nil)))
def f_law_alike_rooms : FT := fun _ _ => .no
def m_law_alike_rooms : List RA.D → Rs (Bool × RA.D) := mk 1 8 f_law_alike_rooms i_law_alike_rooms
/- 359 _law_come_to(_law_machine_here); slots: 0=_law_machine_here 1=_law_rooms 2=_law_at 3=_law_goal; calls:  -/
def i_law_come_to_2 : IS := (.seq (.own 1 (.lst (.cons (.k (.int 0)) .nil))) (.seq (.set 2 (.k (.int 0))) (.seq (.whl (.cmp .lt (.v 2) (.bi .len (.cons (.pk 1) .nil))) (.seq (.for_ (.one 3) (.ex (.ix (.ix (.v 0) (.k (.int 1))) (.ix (.pk 1) (.v 2)))) (.seq (.if_ (.cmp .nmem (.v 3) (.pk 1)) (.seq (.app 1 (.v 3)) .nil) .nil) .nil)) (.seq (.set 2 (.b .add (.v 2) (.k (.int 1)))) .nil))) (.seq (.retp 1) .nil))))
def f_law_come_to_2 : FT := fun _ _ => .no
def m_law_come_to_2 : List RA.D → Rs (Bool × RA.D) := mk 1 4 f_law_come_to_2 i_law_come_to_2
/- 360 _law_low_and_rest(_law_machine_here, _law_k); slots: 0=_law_machine_here 1=_law_k 2=_law_lots_here 3=_law_goals 4=_law_seen 5=_law_row 6=_law_goal; calls: 358=law_alike_rooms 359=law_come_to_2 -/
def i_law_low_and_rest : IS := (.seq (.set 2 (.call 358 (.cons (.v 0) .nil))) (.seq (.set 3 (.call 359 (.cons (.v 0) .nil))) (.seq (.own 4 (.lst .nil)) (.seq (.set 5 (.comp (.one 6) (.ex (.v 3)) (.k (.bl true)) (.ix (.v 2) (.v 6)))) (.seq (.whl (.cmp .nmem (.v 5) (.pk 4)) (.seq (.app 4 (.v 5)) (.seq (.set 3 (.comp (.one 6) (.ex (.v 3)) (.k (.bl true)) (.ix (.ix (.ix (.v 0) (.k (.int 1))) (.v 6)) (.v 1)))) (.seq (.set 5 (.comp (.one 6) (.ex (.v 3)) (.k (.bl true)) (.ix (.v 2) (.v 6)))) .nil)))) (.seq (.ret (.tup (.cons (.lix (.pk 4) (.v 5)) (.cons (.b .sub (.bi .len (.cons (.pk 4) .nil)) (.lix (.pk 4) (.v 5))) .nil)))) .nil))))))
def f_law_low_and_rest : FT := fun n ds => match n, ds with | 358, ds => m_law_alike_rooms ds | 359, ds => m_law_come_to_2 ds | _, _ => .no
@[simp] theorem f_law_low_and_rest_358 (ds : List RA.D) : f_law_low_and_rest 358 ds = m_law_alike_rooms ds := (rfl)
@[simp] theorem f_law_low_and_rest_359 (ds : List RA.D) : f_law_low_and_rest 359 ds = m_law_come_to_2 ds := (rfl)
def m_law_low_and_rest : List RA.D → Rs (Bool × RA.D) := mk 2 7 f_law_low_and_rest i_law_low_and_rest
/- 373 _law_swap(_law_machine_here, _law_bar); slots: 0=_law_machine_here 1=_law_bar 2=_law_sign; calls: 325=law_bar_words 117=law_takes -/
def i_law_swap_2 : IS := (.seq (.if_ (.or_ (.cmp .ne (.bi .len (.cons (.v 1) .nil)) (.k (.int 3))) (.or_ (.not_ (.bi .isStr (.cons (.ix (.v 1) (.k (.int 0))) .nil))) (.cmp .ne (.ix (.v 1) (.k (.int 0))) (.k (.str [115, 119, 97, 112]))))) (.seq (.ret (.k (.bl false))) .nil) .nil) (.seq (.if_ (.not_ (.call 325 (.cons (.sl (.v 1) (.k (.int 1)) .out) (.cons (.ix (.v 0) (.k (.int 0))) .nil)))) (.seq (.ret (.k (.bl false))) .nil) .nil) (.seq (.for_ (.one 2) (.ex (.ix (.v 0) (.k (.int 0)))) (.seq (.if_ (.cmp .ne (.xt .cot (.cons (.ix (.v 1) (.k (.int 1))) (.cons (.v 2) .nil))) (.xt .cot (.cons (.ix (.v 1) (.k (.int 2))) (.cons (.v 2) .nil)))) (.seq (.ret (.k (.bl false))) .nil) .nil) .nil)) (.seq (.ret (.and_ (.call 117 (.cons (.v 0) (.cons (.ix (.v 1) (.k (.int 1))) .nil))) (.not_ (.call 117 (.cons (.v 0) (.cons (.ix (.v 1) (.k (.int 2))) .nil)))))) .nil))))
def f_law_swap_2 : FT := fun n ds => match n, ds with | 325, ds => m_law_bar_words ds | 117, ds => m_law_takes ds | _, _ => .no
@[simp] theorem f_law_swap_2_325 (ds : List RA.D) : f_law_swap_2 325 ds = m_law_bar_words ds := (rfl)
@[simp] theorem f_law_swap_2_117 (ds : List RA.D) : f_law_swap_2 117 ds = m_law_takes ds := (rfl)
def m_law_swap_2 : List RA.D → Rs (Bool × RA.D) := mk 2 3 f_law_swap_2 i_law_swap_2
local macro_rules | `(tactic| dsimp! [$xs,*]) => `(tactic| simp (disch := first | assumption | omega | (simp only [List.length_map, List.length_append, List.length_cons, List.length_nil, List.length_range, List.length_set]; omega) | decide | rfl) only [tstO_eq, x_seq, x_set, x_own, x_do, x_if, x_for, x_whl, x_ret, x_retN, x_pass, x_brk, x_cnt, x_rse, x_fgt, x_frz, x_retp, x_app, x_aug, x_unp, x_put, e_v, e_pk, e_k, e_gl, e_b, e_neg, e_cmp, e_and, e_or, e_not, e_ife, e_tup, e_lst, e_dct, e_dct1, e_lset, e_ix, e_sl, e_rv, rv_lst, e_out, e_bi, e_me, e_call, es_nil, es_cons, i_ex, i_rng1, i_rng2, i_zip, i_rev, valO_ok, pkO_ok, glO_ok, negO_ok, frzO_ok, retO_ok, augO_add, augO_sub, walkO_lst, walkO_tup, walkO_str, zipO_ok, zipI_ok, revO_ok, asB_ok, items_lst, items_tup, items_str, bindT_one, bindT_tup, setAll_nil, setAll_cons, forget_nil, forget_cons, prt_int, prt_out, isOut, keepOk_nil, keepOk_cons, recv_str, b_add, b_sub, c_lt, c_le, c_gt, c_ge, c_ltS, c_gtS, c_eqI, c_neI, c_eqS, c_neS, c_eqB, c_neB, c_isn, c_isnt, c_memS, c_nmemS, sl_lst, len_lst, len_tup, is_str, is_intI, is_boolI, is_boolB, tuple_lst, list_lst, list_tup, find_one, seqO_nx, seqO_no, seqO_rt, seqO_ex, seqO_bk, seqO_ct, seqO_seqO, seqO_ite, x_nil, sat_nx, sat_rt, sat_ex, sat_thru, sat_thru_ct, sat_nxt, sat_t1, sat_t1c, sat_t1r, sat_t1e, Rs.bind_ok, Rs.bind_ex, Rs.out_ok, Rs.out_ex, List.set_cons_succ, List.set_cons_zero, List.getElem?_cons_succ, List.getElem?_cons_zero, List.map_cons, List.map_nil, List.cons_append, List.nil_append, startG, List.reduceReplicate, List.length_cons, List.length_nil, Nat.reduceAdd, Nat.reduceSub, Nat.zero_add, Nat.add_zero, Nat.zero_le, Nat.reduceLeDiff, List.append_nil, reduceCtorEq, if_true, if_false, ite_true, ite_false, ne_eq, not_false_eq_true, not_true_eq_false, decide_true, decide_false, decide_not, Bool.not_true, Bool.not_false, Bool.and_true, Bool.true_and, Bool.and_self, Bool.false_eq_true, and_self, and_true, true_and, decide_eq_true_eq, Int.reduceEq, Int.cast_ofNat_Int, Int.reduceNe, Int.reduceLT, Int.reduceLE, Int.reduceNeg, Int.reduceAdd, Int.reduceSub, tgSlots, freeAt, List.all_cons, List.all_nil, isNon_non, isNon_str, isNon_int, isNon_bl, isNon_tup, isNon_lst, isNon_opq, fin_nx, fin_rt, fin_ex, e_xt, Bool.true_eq_false, eq_self, isc_non, isc_opq, x_xs, x_try, tryO_nx, tryO_rt, tryO_ex, hdG_as, hdG_cst, List.contains_cons, List.contains_nil, Nat.reduceBEq, beq_self_eq_true, up_nil, up_cons, tn_nx, tn_ct, tn_bk, tn_rt, tn_ex, b_fdiv, b_mod, max_two, min_two, ixl, ixt, ixl_last, ixl_zero, ixt_zero, ixs, ixs_last, ixT0, ixT1, ixT12, ixT22, ixL0, ixL1, ixM0, ixM1, ixM2, lenS, slS, rvS, catS, appL, unp2, unp3, r1, r2, r2one, e_comp2, it_nth, nat1, nat1l, natA, natM, natD, natR, natS, natS1, natE, natL, natLe, natL0, natN0, nat0, max_nats, Bool.not_eq_true', Bool.not_eq_false', List.length_map, List.length_append, List.length_range, Bool.true_or, Bool.false_or, Bool.or_true, Bool.or_false, Bool.and_false, Bool.false_and, Bool.or_self, decide_eq_false_iff_not, Nat.lt_irrefl, Bool.not_eq_eq_eq_not, not_true, not_false_iff, Nat.not_lt_zero, f_law_takes_27, f_law_table_2_117, f_law_beginnings_2_27, f_law_beginnings_2_371, f_law_low_and_rest_358, f_law_low_and_rest_359, f_law_swap_2_325, f_law_swap_2_117, f_law_bar_words_15, $xs,*])
section
variable {s : List Nat} {rows : List (List Nat)} {marks : List Bool}
theorem law_takes_ok (M : Mach s rows marks) {w : List Nat} (hw : Wd s.length w) : m_law_takes [mD s rows marks, .str (sp s w)] = .ok (false, .bl (it marks (goes (go rows) 0 w))) := by
  refine mk_sat (R := fun r => r = .ok (false, .bl (it marks (goes (go rows) 0 w)))) rfl ?_
  unfold i_law_takes
  have q0 : goes (go rows) 0 w < marks.length := by rw [M.mkl]; exact M.rws.clo.goes M.pos hw
  have a : m_law_after [mD s rows marks, .int 0, .str (sp s w)] = .ok (false, .int (goes (go rows) 0 w : Nat)) := after_ok M M.pos hw
  dsimp! [a]
theorem law_table2_ok (M : Mach s rows marks) {zs : List (Nat × Nat)} (hl : zs.length = s.length) (hz : ∀ z ∈ zs, z.1 + z.2 ≤ 8) : m_law_table_2 [mD s rows marks, .lst (zs.map PE2)] = .ok (true, .lst (((tabs zs).filter (accT rows marks)).map (fun r : List Nat => RA.D.tup (r.map (fun (n : Nat) => RA.D.int n))))) := by
  refine mk_sat (R := fun r => r = .ok (true, .lst (((tabs zs).filter (accT rows marks)).map (fun r : List Nat => RA.D.tup (r.map (fun (n : Nat) => RA.D.int n)))))) rfl ?_
  unfold i_law_table_2
  have L := M.ltrs
  have sl := L.le
  dsimp! [up_nil]
  refine for_map (fun G0 j G => ∃ (t4 t5 t6 t7 : Option (Bool × RA.D)), G = up G0 [(2, some (false, .lst ((tabs (zs.take j)).map (fun r : List Nat => RA.D.tup (r.map (fun (n : Nat) => RA.D.int n)))))), (4, t4), (5, t5), (6, t6), (7, t7), (9, none)]) ⟨none, none, none, none, rfl⟩ ?_ ?_
  · rintro j z G hzj hj ⟨t4, t5, t6, t7, rfl⟩
    obtain ⟨z1, z2⟩ := z
    refine ⟨_, rfl, ?_⟩
    have t1 := tabs_pow (i := j) (by omega) hz
    have e2 : tabs (zs.take (j + 1)) = ext1 (z1 + z2) (tabs (zs.take j)) := by rw [take_snoc hzj, tabs_snoc]
    have t2 := tabs_pow (i := j + 1) (by omega) hz
    rw [e2] at t2
    rw [e2]
    have tl3 : ∀ t ∈ tabs (zs.take j), t.length ≤ 1000 := fun t ht => by
      have := ((tabs_mem _ t).mp ht).1
      rw [this, List.length_take]; omega
    generalize tabs (zs.take j) = T at t1 t2 tl3
    have z8 : z1 + z2 ≤ 8 := hz _ (List.mem_of_getElem? hzj)
    rw [ext1_len] at t2
    dsimp! [up_nil]
    refine for_map (fun G0 i G => ∃ (t4 : Option (Bool × RA.D)), G = up G0 [(4, t4), (7, some (false, .lst ((ext1 (z1 + z2) (T.take i)).map (fun r : List Nat => RA.D.tup (r.map (fun (n : Nat) => RA.D.int n)))))), (9, none)]) ⟨t4, rfl⟩ ?_ ?_
    · rintro i t G ht hi ⟨t4, rfl⟩
      refine ⟨_, rfl, ?_⟩
      have el : (ext1 (z1 + z2) (T.take i)).length ≤ 512 := by
        rw [ext1_len, List.length_take]
        exact Nat.le_trans (Nat.mul_le_mul_right _ (Nat.min_le_right _ _)) t2
      rw [ext1_step ht]
      have tl := tl3 t (List.mem_of_getElem? ht)
      dsimp! [rng_map]
      rw [comp_of (xs := List.range (z1 + z2)) (fun y => (fun r : List Nat => RA.D.tup (r.map (fun (n : Nat) => RA.D.int n))) (t ++ [y])) rfl (by rw [List.length_range]; omega) fun j y hx hj => ⟨_, rfl, .val, by decide, by
        have c1 : ∀ F, xtD F .ctu [(.val, .tup (t.map (fun (n : Nat) => RA.D.int n))), (.val, .tup [.int (y : Nat)])] = .ok (.val, .tup ((t ++ [y]).map (fun (n : Nat) => RA.D.int n))) := fun F => ctu_maps (m := [y]) (by rw [List.length_singleton]; omega)
        dsimp! [c1]⟩]
      have cc : ∀ F, xtD F .cat [(.val, .lst ((ext1 (z1 + z2) (T.take i)).map (fun r : List Nat => RA.D.tup (r.map (fun (n : Nat) => RA.D.int n))))), (.own, .lst ((List.range (z1 + z2)).map fun y => (fun r : List Nat => RA.D.tup (r.map (fun (n : Nat) => RA.D.int n))) (t ++ [y])))] = .ok (.own, .lst ((ext1 (z1 + z2) (T.take i) ++ (List.range (z1 + z2)).map fun y => t ++ [y]).map (fun r : List Nat => RA.D.tup (r.map (fun (n : Nat) => RA.D.int n))))) := fun F => by
        rw [cat_lst (by rw [List.length_map, List.length_map, List.length_range]; omega), List.map_append, List.map_map]; rfl
      dsimp! [cc]
      exact ⟨_, rfl⟩
    · rintro G ⟨t4, rfl⟩
      rw [List.take_length]
      dsimp! [up_nil]
      exact ⟨_, _, _, _, rfl⟩
  · rintro G ⟨t4, t5, t6, t7, rfl⟩
    rw [List.take_length]
    have t2 := tabs_pow (i := zs.length) (by omega) hz
    rw [List.take_length] at t2
    dsimp! [up_nil]
    refine for_map (fun G0 i G => ∃ (t4 t8 : Option (Bool × RA.D)), G = up G0 [(3, some (true, .lst ((((tabs zs).take i).filter (accT rows marks)).map (fun r : List Nat => RA.D.tup (r.map (fun (n : Nat) => RA.D.int n)))))), (4, t4), (8, t8), (9, none), (10, none)]) ⟨t4, none, rfl⟩ ?_ ?_
    · rintro i x G hx hi ⟨t4, t8, rfl⟩
      refine ⟨_, rfl, ?_⟩
      obtain ⟨h1, h2⟩ := tab_mem hz (List.mem_of_getElem? hx)
      have zl : (s.zip x).length = s.length := by rw [List.length_zip]; omega
      have fl : (((tabs zs).take i).filter (accT rows marks)).length ≤ 512 := Nat.le_trans (List.length_filter_le _ _) (by rw [List.length_take]; omega)
      rw [take_snoc hx, List.filter_append]
      dsimp! [zip_maps]
      rw [comp_of (xs := s.zip x) (fun p => .str (List.replicate p.2 [p.1]).flatten) rfl (by omega) fun j y hy hj => ⟨_, rfl, .val, by decide, by
        have hx2 : y.2 ≤ 1000 := h2 _ (List.of_mem_zip (List.mem_of_getElem? hy)).2
        dsimp! [b_repN hx2]⟩]
      have tk := law_takes_ok M (w := wb 0 x) (wb_wd (by omega))
      by_cases b : it marks (goes (go rows) 0 (wb 0 x)) = true
      · have fb : [x].filter (accT rows marks) = [x] := by
          rw [List.filter_cons, if_pos (show accT rows marks x = true from b), List.filter_nil]
        rw [fb]
        dsimp! [wb_join L (by omega) h2, tk, b]
        exact ⟨_, _, by rw [List.map_append]; rfl⟩
      · have fb : [x].filter (accT rows marks) = [] := by
          rw [List.filter_cons, if_neg (show ¬ accT rows marks x = true from b), List.filter_nil]
        rw [fb]
        dsimp! [wb_join L (by omega) h2, tk, b]
        exact ⟨_, _, rfl⟩
    · rintro G ⟨t4, t8, rfl⟩
      rw [List.take_length]
      dsimp! [up_nil]
/-! told numbers -/
theorem cot_str {F : FT} {a b : Fl} {w : List Nat} {c : Nat} : xtD F .cot [(a, .str w), (b, .str [c])] = .ok (.val, .int (w.count c : Nat)) := (rfl)
theorem cnt_sp (L : Ltrs s) {w : List Nat} {k : Nat} (hw : Wd s.length w) (hk : k < s.length) : (sp s w).count (nth s k) = w.count k := by
  induction w with
  | nil => rfl
  | cons x w ih =>
    unfold sp at ih ⊢
    rw [List.map_cons, List.count_cons, List.count_cons, ih hw.tail]
    congr 1
    have hx : x < s.length := hw.head
    by_cases q : x = k
    · subst q; rw [if_pos (beq_self_eq_true _), if_pos (beq_self_eq_true _)]
    · have n1 : ¬ (x == k) = true := by simpa using q
      have n2 : ¬ (nth s x == nth s k) = true := fun z => q (by
        have z := eq_of_beq z
        have h1 := find_nth L hx
        have h2 := find_nth L hk
        rw [z, h2] at h1
        omega)
      rw [if_neg n1, if_neg n2]
theorem told_by_ok (L : Ltrs s) {zs : List (Nat × Nat)} (hl : zs.length = s.length) (hz : ∀ z ∈ zs, 0 < z.2) {w : List Nat} (hw : Wd s.length w) : m_law_told_by_2 [.lst (zs.map PE2), .str s, .str (sp s w)] = .ok (false, (fun r : List Nat => RA.D.tup (r.map (fun (n : Nat) => RA.D.int n))) (told1 s.length zs w)) := by
  refine mk_sat (R := fun r => r = .ok (false, (fun r : List Nat => RA.D.tup (r.map (fun (n : Nat) => RA.D.int n))) (told1 s.length zs w))) rfl ?_
  unfold i_law_told_by_2
  have sl := L.le
  have zl : (s.zip zs).length = s.length := by rw [List.length_zip]; omega
  dsimp! [zip_maps]
  refine for_map (fun G0 j G => ∃ (t4 t5 t6 : Option (Bool × RA.D)), G = up G0 [(3, some (true, .lst (((List.range j).map fun k => fold1 (it zs k) (w.count k)).map (fun (n : Nat) => RA.D.int n)))), (4, t4), (5, t5), (6, t6)]) ⟨none, none, none, rfl⟩ ?_ ?_
  · rintro j z G hzj hj ⟨t4, t5, t6, rfl⟩
    obtain ⟨c, z⟩ := z
    obtain ⟨hx1, hx2⟩ := List.getElem?_zip_eq_some.mp hzj
    have hjs : j < s.length := (List.getElem?_eq_some_iff.mp hx1).1
    have e1 : nth s j = c := nth_of hx1
    have e2 : it zs j = z := it_of hx2
    have zp := hz z (List.mem_of_getElem? hx2)
    obtain ⟨z1, z2⟩ := z
    have zp : 0 < z2 := zp
    refine ⟨_, rfl, ?_⟩
    have cs := cnt_sp L hw hjs
    rw [e1] at cs
    have ap : (List.range (j + 1)).map (fun k => fold1 (it zs k) (w.count k)) = (List.range j).map (fun k => fold1 (it zs k) (w.count k)) ++ [fold1 (z1, z2) (w.count j)] := by
      rw [List.range_succ, List.map_append, List.map_singleton, e2]
    rw [ap]
    generalize w.count j = n at cs
    by_cases q : z1 ≤ n
    · have f1 : fold1 (z1, z2) n = z1 + (n - z1) % z2 := if_neg (by show ¬ n < z1; omega)
      rw [f1]
      have bm : binD .mod (.int ((n - z1 : Nat) : Int)) (.int (z2 : Nat)) = .ok (.val, .int ((n - z1) % z2 : Nat)) := by
        rw [b_mod (by omega), natR]
      dsimp! [cot_str, cs, q, bm]
      exact ⟨_, _, _, by rw [List.map_append]; rfl⟩
    · have f1 : fold1 (z1, z2) n = n := if_pos (by show n < z1; omega)
      rw [f1]
      dsimp! [cot_str, cs, q]
      exact ⟨_, _, _, by rw [List.map_append]; rfl⟩
  · rintro G ⟨t4, t5, t6, rfl⟩
    rw [zl]
    dsimp! [up_nil]
    unfold told1
    rfl
theorem beginnings2_ok (M : Mach s rows marks) {zs : List (Nat × Nat)} (hl : zs.length = s.length) (hz : ∀ z ∈ zs, 0 < z.2) {T : List (List Nat)} {W : List Nat} (hW : Wd s.length W) (wl : W.length ≤ 1000) (h : ∀ V, Wd s.length V → it marks (goes (go rows) 0 V) = decide (told1 s.length zs V ∈ T)) :
    m_law_beginnings_2 [mD s rows marks, .lst (zs.map PE2), .lst (T.map (fun r : List Nat => RA.D.tup (r.map (fun (n : Nat) => RA.D.int n)))), .str (sp s W)] = .ok (false, .bl true) := by
  refine mk_sat (R := fun r => r = .ok (false, .bl true)) rfl ?_
  unfold i_law_beginnings_2
  have sWl : (sp s W).length = W.length := sp_len
  have wt : ∀ i, Wd s.length (W.take i) := fun i x hx => hW x (List.mem_of_mem_take hx)
  dsimp! [sWl]
  refine for_rng (fun G0 i G => ∃ t5, G = up G0 [(4, some (false, .int (goes (go rows) 0 (W.take i) : Nat))), (5, t5)]) ⟨none, rfl⟩ ?_ ?_
  · rintro i G hi ⟨t5, rfl⟩
    refine ⟨_, rfl, ?_⟩
    have q0 : goes (go rows) 0 (W.take i) < rows.length := M.rws.clo.goes M.pos (wt i)
    have q1 : goes (go rows) 0 (W.take i) < marks.length := by rw [M.mkl]; exact q0
    have ct : cutD (sp s W) none (some (i : Int)) = sp s (W.take i) := by rw [cut_to]; unfold sp; rw [List.map_take]
    have tb := told_by_ok M.ltrs hl hz (wt i)
    have mm : cmpD .mem ((fun r : List Nat => RA.D.tup (r.map (fun (n : Nat) => RA.D.int n))) (told1 s.length zs (W.take i))) (.lst (T.map (fun r : List Nat => RA.D.tup (r.map (fun (n : Nat) => RA.D.int n))))) = .ok (decide (told1 s.length zs (W.take i) ∈ T)) := (deepR.mem T _).trans (by congr)
    rw [← h _ (wt i)] at mm
    by_cases z : i < W.length
    · obtain ⟨a, ha⟩ : ∃ a, W[i]? = some a := ⟨_, List.getElem?_eq_getElem z⟩
      have has : a < s.length := hW a (List.mem_of_getElem? ha)
      have tk : W.take (i + 1) = W.take i ++ [a] := take_snoc ha
      have y2 : ixD (.str (sp s W)) (.int (i : Nat)) = .ok (.str [nth s a]) := by
        rw [ixs (by rw [sWl]; omega) (by rw [sWl]; omega)]
        congr 3
        exact nth_of (by unfold sp; rw [List.getElem?_map, ha]; rfl)
      have af : m_law_after [mD s rows marks, .int (goes (go rows) 0 (W.take i) : Nat), .str [nth s a]] = .ok (false, .int (goes (go rows) 0 (W.take (i + 1)) : Nat)) := by
        have := after_ok M q0 (w := [a]) (Wd.nil.snoc has)
        rw [tk, goes_app]; exact this
      dsimp! [ct, tb, mm, sWl, z, y2, af]
      exact ⟨_, rfl⟩
    · dsimp! [ct, tb, mm, sWl, z]
      refine ⟨some (false, .int (i : Nat)), ?_⟩
      rw [List.take_of_length_le (show W.length ≤ i by omega), List.take_of_length_le (show W.length ≤ i + 1 by omega)]
  · rintro G ⟨t5, rfl⟩
    dsimp! [up_nil]
theorem swap2_ok (M : Mach s rows marks) {u w : List Nat} (hu : Wd s.length u) (hw : Wd s.length w) (ul : u.length ≤ 60) (wl : w.length ≤ 60) (p : u.Perm w) (h1 : it marks (goes (go rows) 0 u) = true) (h2 : it marks (goes (go rows) 0 w) = false) : m_law_swap_2 [mD s rows marks, .tup [.str [115, 119, 97, 112], .str (sp s u), .str (sp s w)]] = .ok (false, .bl true) := by
  refine mk_sat (R := fun r => r = .ok (false, .bl true)) rfl ?_
  unfold i_law_swap_2
  have bw : m_law_bar_words [.tup [.str (sp s u), .str (sp s w)], .str s] = .ok (false, .bl true) := bar_words_ok [u, w] fun x hx => by
    simp only [List.mem_cons, List.not_mem_nil, or_false] at hx
    rcases hx with rfl | rfl
    · exact ⟨hu, ul⟩
    · exact ⟨hw, wl⟩
  have l3 : biD .len [.tup [.str [115, 119, 97, 112], .str (sp s u), .str (sp s w)]] = .ok (.val, .int 3) := rfl
  have x0 : ixD (.tup [.str [115, 119, 97, 112], .str (sp s u), .str (sp s w)]) (.int 0) = .ok (.str [115, 119, 97, 112]) := rfl
  have x1 : ixD (.tup [.str [115, 119, 97, 112], .str (sp s u), .str (sp s w)]) (.int 1) = .ok (.str (sp s u)) := rfl
  have x2 : ixD (.tup [.str [115, 119, 97, 112], .str (sp s u), .str (sp s w)]) (.int 2) = .ok (.str (sp s w)) := rfl
  have sl : slD (.tup [.str [115, 119, 97, 112], .str (sp s u), .str (sp s w)]) (some 1) none = .ok (.val, .tup [.str (sp s u), .str (sp s w)]) := rfl
  have cn : ∀ c, (sp s u).count c = (sp s w).count c := fun c => (p.map (nth s)).count_eq c
  dsimp! [bw, l3, x0, x1, x2, sl]
  refine for_map (fun G0 i G => ∃ t2, G = up G0 [(2, t2)]) ⟨none, rfl⟩ ?_ ?_
  · rintro i c G hc hi ⟨t2, rfl⟩
    refine ⟨_, rfl, ?_⟩
    dsimp! [x1, x2, cot_str, cn c]
    exact ⟨_, rfl⟩
  · rintro G ⟨t2, rfl⟩
    dsimp! [x1, x2, law_takes_ok M hu, law_takes_ok M hw, h1, h2]
end
end RA
/-! W28: rooms alike, rooms come to, how a way comes round, as the laws find them. -/
namespace RA
open PySem PySem.Spec PyProof.Rows L2
local macro_rules | `(tactic| dsimp! [$xs,*]) => `(tactic| simp (disch := first | assumption | omega | (simp only [List.length_map, List.length_append, List.length_cons, List.length_nil, List.length_range, List.length_set]; omega) | decide | rfl) only [tstO_eq, x_seq, x_set, x_own, x_do, x_if, x_for, x_whl, x_ret, x_retN, x_pass, x_brk, x_cnt, x_rse, x_fgt, x_frz, x_retp, x_app, x_aug, x_unp, x_put, e_v, e_pk, e_k, e_gl, e_b, e_neg, e_cmp, e_and, e_or, e_not, e_ife, e_tup, e_lst, e_dct, e_dct1, e_lset, e_ix, e_sl, e_rv, rv_lst, e_out, e_bi, e_me, e_call, es_nil, es_cons, i_ex, i_rng1, i_rng2, i_zip, i_rev, valO_ok, pkO_ok, glO_ok, negO_ok, frzO_ok, retO_ok, augO_add, augO_sub, walkO_lst, walkO_tup, walkO_str, zipO_ok, zipI_ok, revO_ok, asB_ok, items_lst, items_tup, items_str, bindT_one, bindT_tup, setAll_nil, setAll_cons, forget_nil, forget_cons, prt_int, prt_out, isOut, keepOk_nil, keepOk_cons, recv_str, b_add, b_sub, c_lt, c_le, c_gt, c_ge, c_ltS, c_gtS, c_eqI, c_neI, c_eqS, c_neS, c_eqB, c_neB, c_isn, c_isnt, c_memS, c_nmemS, sl_lst, len_lst, len_tup, is_str, is_intI, is_boolI, is_boolB, tuple_lst, list_lst, list_tup, find_one, seqO_nx, seqO_no, seqO_rt, seqO_ex, seqO_bk, seqO_ct, seqO_seqO, seqO_ite, x_nil, sat_nx, sat_rt, sat_ex, sat_thru, sat_thru_ct, sat_nxt, sat_t1, sat_t1c, sat_t1r, sat_t1e, Rs.bind_ok, Rs.bind_ex, Rs.out_ok, Rs.out_ex, List.set_cons_succ, List.set_cons_zero, List.getElem?_cons_succ, List.getElem?_cons_zero, List.map_cons, List.map_nil, List.cons_append, List.nil_append, startG, List.reduceReplicate, List.length_cons, List.length_nil, Nat.reduceAdd, Nat.reduceSub, Nat.zero_add, Nat.add_zero, Nat.zero_le, Nat.reduceLeDiff, List.append_nil, reduceCtorEq, if_true, if_false, ite_true, ite_false, ne_eq, not_false_eq_true, not_true_eq_false, decide_true, decide_false, decide_not, Bool.not_true, Bool.not_false, Bool.and_true, Bool.true_and, Bool.and_self, Bool.false_eq_true, and_self, and_true, true_and, decide_eq_true_eq, Int.reduceEq, Int.cast_ofNat_Int, Int.reduceNe, Int.reduceLT, Int.reduceLE, Int.reduceNeg, Int.reduceAdd, Int.reduceSub, tgSlots, freeAt, List.all_cons, List.all_nil, isNon_non, isNon_str, isNon_int, isNon_bl, isNon_tup, isNon_lst, isNon_opq, fin_nx, fin_rt, fin_ex, e_xt, Bool.true_eq_false, eq_self, isc_non, isc_opq, x_xs, x_try, tryO_nx, tryO_rt, tryO_ex, hdG_as, hdG_cst, List.contains_cons, List.contains_nil, Nat.reduceBEq, beq_self_eq_true, up_nil, up_cons, tn_nx, tn_ct, tn_bk, tn_rt, tn_ex, b_fdiv, b_mod, max_two, min_two, ixl, ixt, ixl_last, ixl_zero, ixt_zero, ixs, ixs_last, ixT0, ixT1, ixT12, ixT22, ixL0, ixL1, ixM0, ixM1, ixM2, lenS, slS, rvS, catS, appL, unp2, unp3, r1, r2, r2one, e_comp2, it_nth, nat1, nat1l, natA, natM, natD, natR, natS, natS1, natE, natL, natLe, natL0, natN0, nat0, max_nats, Bool.not_eq_true', Bool.not_eq_false', List.length_map, List.length_append, List.length_range, Bool.true_or, Bool.false_or, Bool.or_true, Bool.or_false, Bool.and_false, Bool.false_and, Bool.or_self, decide_eq_false_iff_not, Nat.lt_irrefl, Bool.not_eq_eq_eq_not, not_true, not_false_iff, Nat.not_lt_zero, f_law_low_and_rest_358, f_law_low_and_rest_359, $xs,*])
section
variable {s : List Nat} {rows : List (List Nat)} {marks : List Bool}
theorem come_to2_ok (M : Mach s rows marks) (hn : rows.length ≤ 1000) : ∃ R : List Nat, m_law_come_to_2 [mD s rows marks] = .ok (true, .lst (R.map (fun (n : Nat) => RA.D.int n))) ∧ R.length ≤ rows.length ∧ ∀ x, x ∈ R ↔ ∃ w, Wd s.length w ∧ goes (go rows) 0 w = x := by
  refine mk_sat (R := fun z => ∃ R : List Nat, z = .ok (true, .lst (R.map (fun (n : Nat) => RA.D.int n))) ∧ R.length ≤ rows.length ∧ ∀ x, x ∈ R ↔ ∃ w, Wd s.length w ∧ goes (go rows) 0 w = x) rfl ?_
  unfold i_law_come_to_2
  have L := M.ltrs
  have sl := L.le
  have R := M.rws
  have C := R.clo
  have lt : ∀ {f : List (Nat × List Nat)} {i j : Nat}, Bfs s.length (go rows) 0 f i j → ∀ p ∈ f, p.1 < rows.length := fun I => I.inv (P := fun a => a < rows.length) M.pos (fun a k h1 h2 => C a h1 k h2)
  have sz : ∀ {f : List (Nat × List Nat)} {i j : Nat}, Bfs s.length (go rows) 0 f i j → f.length ≤ rows.length := fun I =>
    I.size rows.length id (fun a _ b _ e => e) fun a ha => by
      obtain ⟨p, hp, rfl⟩ := List.mem_map.mp ha
      exact lt I p hp
  dsimp! [up_nil]
  refine whl_at (fun G0 v G => ∃ (f : List (Nat × List Nat)) (i : Nat) (t3 : Option (Bool × RA.D)), G = up G0 [(1, some (true, .lst ((f.map (·.1)).map (fun (n : Nat) => RA.D.int n)))), (2, some (false, .int (i : Nat))), (3, t3)] ∧ Bfs s.length (go rows) 0 f i 0 ∧ i ≤ f.length ∧ v + i = rows.length) rows.length (by omega) ⟨[(0, [])], 0, none, rfl, Bfs.start, Nat.zero_le _, rfl⟩ ?_
  rintro v G ⟨f, i, t3, rfl, I, hi, hv⟩
  have fl := sz I
  by_cases hc : i < f.length
  · refine .inr ⟨by dsimp! [hc], ?_⟩
    have hp := it_get hc
    generalize it f i = p at hp
    obtain ⟨p1, p2⟩ := p
    have hr : p1 < rows.length := lt I _ (List.mem_of_getElem? hp)
    obtain ⟨h1, h2⟩ := R.row p1 hr
    have x1 : ixD (.lst ((f.map (·.1)).map (fun (n : Nat) => RA.D.int n))) (.int (i : Nat)) = .ok (.int (p1 : Nat)) := by
      have := ixl (f := (fun (n : Nat) => RA.D.int n)) (xs := f.map (·.1)) (i := i) (by rw [List.length_map]; exact hc)
      rw [it_of (x := p1) (by rw [List.getElem?_map, hp]; rfl)] at this; exact this
    dsimp! [x1]
    refine for_map (fun G0 k G => ∃ (f : List (Nat × List Nat)) (t3 : Option (Bool × RA.D)), G = up G0 [(1, some (true, .lst ((f.map (·.1)).map (fun (n : Nat) => RA.D.int n)))), (3, t3)] ∧ Bfs s.length (go rows) 0 f i k ∧ f[i]? = some (p1, p2)) ⟨f, t3, rfl, I, hp⟩ ?_ ?_
    · rintro k x G hx hk ⟨f, t3, rfl, I, hp⟩
      have hk : k < s.length := by omega
      have e2 : go rows p1 k = x := nth_of hx
      have fl := sz I
      refine ⟨_, rfl, ?_⟩
      have P := I.put hk hp
      unfold bput at P
      rw [show (go rows (p1, p2).1 k) = x from e2] at P
      have g1 : cmpD .nmem (.int (x : Nat)) (.lst ((f.map (·.1)).map (fun (n : Nat) => RA.D.int n))) = .ok (!decide (x ∈ f.map (·.1))) := nmemN
      by_cases q : x ∈ f.map (·.1)
      · rw [if_pos q] at P
        dsimp! [g1, q]
        exact ⟨f, _, rfl, P.1, P.2⟩
      · rw [if_neg q] at P
        dsimp! [g1, q]
        exact ⟨f ++ [(x, p2 ++ [k])], _, by rw [List.map_append, List.map_append]; rfl, P.1, P.2⟩
    · rintro G ⟨f, t3, rfl, I, hp⟩
      rw [h1] at I
      have fl := sz I.next
      dsimp! [up_nil]
      exact ⟨v - 1, by omega, f, i + 1, _, rfl, I.next, (List.getElem?_eq_some_iff.mp hp).1, by omega⟩
  · refine .inl ⟨by dsimp! [hc], ?_⟩
    have : i = f.length := by omega
    subst this
    dsimp! [up_nil]
    refine ⟨f.map (·.1), rfl, by rw [List.length_map]; exact fl, fun x => ?_⟩
    constructor
    · intro h
      obtain ⟨p, hp, rfl⟩ := List.mem_map.mp h
      obtain ⟨h1, h2, _⟩ := I.it p hp
      exact ⟨p.2, h1, h2⟩
    · rintro ⟨w, hw, rfl⟩
      obtain ⟨u, hu, _⟩ := I.done (Nat.le_refl _) w hw
      exact List.mem_map.mpr ⟨_, hu, rfl⟩
/-! rooms alike -/
theorem int_bl {b : Bool} : biD .int [.bl b] = .ok (.val, .int (if b then 1 else 0)) := (rfl)
theorem alike_rooms_ok (M : Mach s rows marks) (hn : rows.length ≤ 1000) : ∃ lots : List Nat, m_law_alike_rooms [mD s rows marks] = .ok (false, .lst (lots.map (fun (n : Nat) => RA.D.int n))) ∧ lots.length = rows.length ∧ ∀ p < rows.length, ∀ q < rows.length, nth lots p = nth lots q ↔ alike s.length (go rows) (it marks) p q := by
  refine mk_sat (R := fun z => ∃ lots : List Nat, z = .ok (false, .lst (lots.map (fun (n : Nat) => RA.D.int n))) ∧ lots.length = rows.length ∧ ∀ p < rows.length, ∀ q < rows.length, nth lots p = nth lots q ↔ alike s.length (go rows) (it marks) p q) rfl ?_
  unfold i_law_alike_rooms
  have L := M.ltrs
  have sl := L.le
  have C := M.rws.clo
  have ml := M.mkl
  dsimp! [up_nil]
  rw [comp_of (xs := marks) (fun b => .int (if b then 1 else 0)) rfl (by omega) fun j b hb hj => ⟨_, rfl, .val, by decide, by dsimp! [int_bl]⟩]
  have e0 : marks.map (fun b => RA.D.int (if b then 1 else 0)) = (marks.map fun b => if b = true then 1 else 0).map (fun (n : Nat) => RA.D.int n) := by
    rw [List.map_map]
    refine List.map_congr_left fun b _ => ?_
    cases b <;> rfl
  rw [e0]
  dsimp! [up_nil]
  refine for_rng (fun G0 t G => ∃ (lots : List Nat) (t2 t3 : Option (Bool × RA.D)), G = up G0 [(1, some (false, .lst (lots.map (fun (n : Nat) => RA.D.int n)))), (2, t2), (3, t3)] ∧ lots.length = rows.length ∧ ∀ p < rows.length, ∀ q < rows.length, nth lots p = nth lots q ↔ agree s.length (go rows) (it marks) t p q) ⟨marks.map fun b => if b = true then 1 else 0, none, none, rfl, by rw [List.length_map, ml], fun p hp q hq => ?_⟩ ?_ ?_
  · have e : ∀ p < rows.length, nth (marks.map fun b => if b = true then 1 else 0) p = if it marks p = true then 1 else 0 := fun p hp => nth_of (by rw [List.getElem?_map, it_get (by omega : p < marks.length)]; rfl)
    rw [e p hp, e q hq]
    constructor
    · intro z w _ wl
      have : w = [] := List.length_eq_zero_iff.mp (by omega)
      subst this
      show it marks p = it marks q
      cases h1 : it marks p <;> cases h2 : it marks q <;> rw [h1, h2] at z <;> first | rfl | cases z
    · intro z
      have : it marks p = it marks q := z [] Wd.nil (Nat.le_refl _)
      rw [this]
  · rintro t G ht ⟨lots, t2, t3, rfl, ll, hl⟩
    refine ⟨_, rfl, ?_⟩
    dsimp! [rng_map]
    rw [comp_of (xs := List.range lots.length) (fun j => .tup [.int (nth lots j : Nat), .lst ((it rows j).map fun g => .int (nth lots g : Nat))]) rfl (by rw [List.length_range]; omega) fun i j hj hi => ⟨_, rfl, .val, by decide, by
      have hj2 : j < rows.length := by
        have := List.mem_range.mp (List.mem_of_getElem? hj); omega
      obtain ⟨h1, h2⟩ := M.rws.row j hj2
      dsimp! [up_nil]
      rw [comp_of (xs := it rows j) (fun g => .int (nth lots g : Nat)) rfl (by omega) fun i g hg hi => ⟨_, rfl, .val, by decide, by
        have hg2 : g < lots.length := by rw [ll]; exact h2 g (List.mem_of_getElem? hg)
        dsimp! [up_nil]⟩]
      dsimp! [up_nil]⟩]
    have eK : (List.range lots.length).map (fun j => RA.D.tup [.int (nth lots j : Nat), .lst ((it rows j).map fun g => .int (nth lots g : Nat))]) = ((List.range lots.length).map fun j => (nth lots j, (it rows j).map (nth lots))).map KEY := by
      rw [List.map_map]
      refine List.map_congr_left fun j _ => ?_
      show _ = RA.D.tup [.int (nth lots j : Nat), .lst (((it rows j).map (nth lots)).map (fun (n : Nat) => RA.D.int n))]
      rw [List.map_map]; rfl
    rw [eK]
    have kl : ((List.range lots.length).map fun j => (nth lots j, (it rows j).map (nth lots))).length = lots.length := by rw [List.length_map, List.length_range]
    have kn : ∀ p < rows.length, ((List.range lots.length).map fun j => (nth lots j, (it rows j).map (nth lots)))[p]? = some (nth lots p, (it rows p).map (nth lots)) := fun p hp => by
      rw [List.getElem?_map, List.getElem?_range (by omega)]; rfl
    generalize (List.range lots.length).map (fun j => (nth lots j, (it rows j).map (nth lots))) = keys at kl kn
    dsimp! [up_nil]
    rw [comp_of (xs := keys) (fun k => .int (ixOf keys k : Nat)) rfl (by omega) fun i k hk hi => ⟨_, rfl, .val, by decide, by
      have lx := deepK.lix (List.mem_of_getElem? hk)
      dsimp! [e_lix, lixO_ok, lx]⟩]
    dsimp! [up_nil]
    have e : ∀ p < rows.length, nth (keys.map (ixOf keys)) p = ixOf keys (nth lots p, (it rows p).map (nth lots)) := fun p hp => nth_of (by rw [List.getElem?_map, kn p hp]; rfl)
    refine ⟨keys.map (ixOf keys), _, _, by rw [List.map_map]; rfl, by rw [List.length_map]; omega, fun p hp q hq => ?_⟩
    rw [e p hp, e q hq, ixOf_inj (List.mem_of_getElem? (kn p hp)) (List.mem_of_getElem? (kn q hq)), Prod.mk.injEq, agree_succ, hl p hp q hq]
    obtain ⟨h1, _⟩ := M.rws.row p hp
    obtain ⟨h2, _⟩ := M.rws.row q hq
    refine and_congr Iff.rfl ?_
    rw [map_eq_iff (by rw [h1, h2]), h1]
    exact ⟨fun z k hk => (hl _ (C p hp k hk) _ (C q hq k hk)).mp (z k hk), fun z k hk => (hl _ (C p hp k hk) _ (C q hq k hk)).mpr (z k hk)⟩
  · rintro G ⟨lots, t2, t3, rfl, ll, hl⟩
    dsimp! [up_nil]
    rw [ml] at hl
    refine ⟨lots, rfl, ll, fun p hp q hq => ?_⟩
    rw [hl p hp q hq]
    exact ⟨moore C M.pos hp hq, fun h w hw _ => h w hw⟩
/-! how a way comes round -/
theorem low_rest_ok (M : Mach s rows marks) (hn : rows.length ≤ 1000) {k n' : Nat} (hk : k < s.length) {y : Nat → Nat} (hy : ∀ i, y i < n') (hn' : n' ≤ 1000)
    (e : ∀ i j, y i = y j ↔ ∀ w, Wd s.length w → alike s.length (go rows) (it marks) (ob (fun q => go rows q k) (goes (go rows) 0 w) i) (ob (fun q => go rows q k) (goes (go rows) 0 w) j)) :
    ∃ z : Nat × Nat, m_law_low_and_rest [mD s rows marks, .int k] = .ok (false, PE2 z) ∧ Rho y z.1 z.2 := by
  refine mk_sat (R := fun r => ∃ z : Nat × Nat, r = .ok (false, PE2 z) ∧ Rho y z.1 z.2) rfl ?_
  unfold i_law_low_and_rest
  obtain ⟨lots, el, ll, hl⟩ := alike_rooms_ok M hn
  obtain ⟨R, er, Rl, hR⟩ := come_to2_ok M hn
  have C := M.rws.clo
  have ox : ∀ q < rows.length, ∀ i, ob (fun q => go rows q k) q i < rows.length := fun q hq i => by
    induction i with
    | zero => exact hq
    | succ i ih => exact C _ ih k hk
  have Rlt : ∀ q ∈ R, q < rows.length := fun q hq => by
    obtain ⟨w, hw, rfl⟩ := (hR q).mp hq
    exact C.goes M.pos hw
  obtain ⟨gs, hgs⟩ : ∃ gs : Nat → List Nat, gs = fun i => R.map fun q => ob (fun q => go rows q k) q i := ⟨_, rfl⟩
  obtain ⟨rw_, hrw⟩ : ∃ rw_ : Nat → List Nat, rw_ = fun i => (gs i).map (nth lots) := ⟨_, rfl⟩
  have g0 : R = gs 0 := by rw [hgs]; exact (List.map_id' R).symm
  have gl : ∀ i, (gs i).length = R.length := fun i => by rw [hgs, List.length_map]
  have glt : ∀ i, ∀ q ∈ gs i, q < rows.length := fun i q hq => by
    rw [hgs] at hq
    obtain ⟨r, hr, rfl⟩ := List.mem_map.mp hq
    exact ox r (Rlt r hr) i
  have gstep : ∀ i, (gs i).map (fun q => nth (it rows q) k) = gs (i + 1) := fun i => by
    rw [hgs, List.map_map]; rfl
  have er2 : ∀ i j, rw_ i = rw_ j ↔ y i = y j := fun i j => by
    rw [e, hrw, hgs]
    dsimp only
    rw [List.map_map, List.map_map]
    constructor
    · intro z w hw
      have hq : goes (go rows) 0 w ∈ R := (hR _).mpr ⟨w, hw, rfl⟩
      have := List.map_inj_left.mp z _ hq
      exact (hl _ (ox _ (Rlt _ hq) i) _ (ox _ (Rlt _ hq) j)).mp this
    · intro z
      refine List.map_inj_left.mpr fun q hq => ?_
      obtain ⟨w, hw, rfl⟩ := (hR q).mp hq
      exact (hl _ (ox _ (Rlt _ hq) i) _ (ox _ (Rlt _ hq) j)).mpr (z w hw)
  dsimp! [el, er]
  rw [g0]
  rw [comp_of (xs := gs 0) (fun q => .int (nth lots q : Nat)) rfl (by rw [gl]; omega) fun j q hq hj => ⟨_, rfl, .val, by decide, by
    have hq2 : q < lots.length := by rw [ll]; exact glt _ q (List.mem_of_getElem? hq)
    dsimp! [up_nil]⟩]
  have ev : ∀ i, (gs i).map (fun q => RA.D.int (nth lots q : Nat)) = (rw_ i).map (fun (n : Nat) => RA.D.int n) := fun i => by rw [hrw]; dsimp only; rw [List.map_map]; rfl
  rw [ev]
  dsimp! [up_nil]
  refine whl_at (fun G0 v G => ∃ i, G = up G0 [(3, some (false, .lst ((gs i).map (fun (n : Nat) => RA.D.int n)))), (4, some (true, .lst (((List.range i).map rw_).map LROW))), (5, some (false, LROW (rw_ i))), (6, none)] ∧ (∀ a < i, ∀ b < a, y a ≠ y b) ∧ v + i = n') n' (by omega) ⟨0, rfl, fun a h => absurd h (Nat.not_lt_zero _), rfl⟩ ?_
  rintro v G ⟨i, rfl, H, hv⟩
  have g1 : cmpD .nmem (LROW (rw_ i)) (.lst (((List.range i).map rw_).map LROW)) = .ok (!decide (rw_ i ∈ (List.range i).map rw_)) := (deepL.nmem _ _).trans (by congr)
  by_cases h : rw_ i ∈ (List.range i).map rw_
  · refine .inl ⟨by dsimp! [g1, h], ?_⟩
    have lx := deepL.lix h
    have jl := ixOf_lt h
    have je := ixOf_get h
    generalize ixOf ((List.range i).map rw_) (rw_ i) = j at lx jl je
    rw [List.length_map, List.length_range] at jl
    rw [List.getElem?_map, List.getElem?_range jl] at je
    have je : rw_ j = rw_ i := Option.some.inj je
    dsimp! [e_lix, lixO_ok, lx]
    have ij : j + (i - j) = i := by omega
    exact ⟨(j, i - j), rfl, ⟨Nat.sub_pos_of_lt jl, fun a ha b hb => H a (Nat.lt_of_lt_of_le ha (Nat.le_of_eq ij)) b hb, (congrArg y ij).trans ((er2 _ _).mp je).symm⟩⟩
  · refine .inr ⟨by dsimp! [g1, h], ?_⟩
    have H2 : ∀ a < i + 1, ∀ b < a, y a ≠ y b := fun a ha b hb z => by
      by_cases q : a < i
      · exact H a q b hb z
      · have : a = i := by omega
        subst this
        exact h (List.mem_map.mpr ⟨b, List.mem_range.mpr hb, (er2 _ _).mpr z.symm⟩)
    have li := sq_le H2 hy
    have gl1 := gl i
    have gl2 := gl (i + 1)
    dsimp! [up_nil]
    rw [comp_of (xs := gs i) (fun q => .int (nth (it rows q) k : Nat)) rfl (by omega) fun j q hq hj => ⟨_, rfl, .val, by decide, by
      have hq2 := glt _ q (List.mem_of_getElem? hq)
      obtain ⟨h1, h2⟩ := M.rws.row q hq2
      have lk : k < (it rows q).length := by omega
      dsimp! [up_nil]⟩]
    have ev2 : (gs i).map (fun q => RA.D.int (nth (it rows q) k : Nat)) = (gs (i + 1)).map (fun (n : Nat) => RA.D.int n) := by rw [← gstep, List.map_map]; rfl
    rw [ev2]
    dsimp! [up_nil]
    rw [comp_of (xs := gs (i + 1)) (fun q => .int (nth lots q : Nat)) rfl (by omega) fun j q hq hj => ⟨_, rfl, .val, by decide, by
      have hq2 : q < lots.length := by rw [ll]; exact glt _ q (List.mem_of_getElem? hq)
      dsimp! [up_nil]⟩]
    rw [ev]
    dsimp! [up_nil]
    exact ⟨v - 1, by omega, i + 1, by rw [List.range_succ, List.map_append, List.map_append]; rfl, H2, by omega⟩
end
end RA
/-! W29: sets told by how often letters stand: what the two laws share. -/
namespace RA
open PySem PySem.Spec PyProof.Rows L2
local macro_rules | `(tactic| dsimp! [$xs,*]) => `(tactic| simp (disch := first | assumption | omega | (simp only [List.length_map, List.length_append, List.length_cons, List.length_nil, List.length_range, List.length_set]; omega) | decide | rfl) only [tstO_eq, x_seq, x_set, x_own, x_do, x_if, x_for, x_whl, x_ret, x_retN, x_pass, x_brk, x_cnt, x_rse, x_fgt, x_frz, x_retp, x_app, x_aug, x_unp, x_put, e_v, e_pk, e_k, e_gl, e_b, e_neg, e_cmp, e_and, e_or, e_not, e_ife, e_tup, e_lst, e_dct, e_dct1, e_lset, e_ix, e_sl, e_rv, rv_lst, e_out, e_bi, e_me, e_call, es_nil, es_cons, i_ex, i_rng1, i_rng2, i_zip, i_rev, valO_ok, pkO_ok, glO_ok, negO_ok, frzO_ok, retO_ok, augO_add, augO_sub, walkO_lst, walkO_tup, walkO_str, zipO_ok, zipI_ok, revO_ok, asB_ok, items_lst, items_tup, items_str, bindT_one, bindT_tup, setAll_nil, setAll_cons, forget_nil, forget_cons, prt_int, prt_out, isOut, keepOk_nil, keepOk_cons, recv_str, b_add, b_sub, c_lt, c_le, c_gt, c_ge, c_ltS, c_gtS, c_eqI, c_neI, c_eqS, c_neS, c_eqB, c_neB, c_isn, c_isnt, c_memS, c_nmemS, sl_lst, len_lst, len_tup, is_str, is_intI, is_boolI, is_boolB, tuple_lst, list_lst, list_tup, find_one, seqO_nx, seqO_no, seqO_rt, seqO_ex, seqO_bk, seqO_ct, seqO_seqO, seqO_ite, x_nil, sat_nx, sat_rt, sat_ex, sat_thru, sat_thru_ct, sat_nxt, sat_t1, sat_t1c, sat_t1r, sat_t1e, Rs.bind_ok, Rs.bind_ex, Rs.out_ok, Rs.out_ex, List.set_cons_succ, List.set_cons_zero, List.getElem?_cons_succ, List.getElem?_cons_zero, List.map_cons, List.map_nil, List.cons_append, List.nil_append, startG, List.reduceReplicate, List.length_cons, List.length_nil, Nat.reduceAdd, Nat.reduceSub, Nat.zero_add, Nat.add_zero, Nat.zero_le, Nat.reduceLeDiff, List.append_nil, reduceCtorEq, if_true, if_false, ite_true, ite_false, ne_eq, not_false_eq_true, not_true_eq_false, decide_true, decide_false, decide_not, Bool.not_true, Bool.not_false, Bool.and_true, Bool.true_and, Bool.and_self, Bool.false_eq_true, and_self, and_true, true_and, decide_eq_true_eq, Int.reduceEq, Int.cast_ofNat_Int, Int.reduceNe, Int.reduceLT, Int.reduceLE, Int.reduceNeg, Int.reduceAdd, Int.reduceSub, tgSlots, freeAt, List.all_cons, List.all_nil, isNon_non, isNon_str, isNon_int, isNon_bl, isNon_tup, isNon_lst, isNon_opq, fin_nx, fin_rt, fin_ex, e_xt, Bool.true_eq_false, eq_self, isc_non, isc_opq, x_xs, x_try, tryO_nx, tryO_rt, tryO_ex, hdG_as, hdG_cst, List.contains_cons, List.contains_nil, Nat.reduceBEq, beq_self_eq_true, up_nil, up_cons, tn_nx, tn_ct, tn_bk, tn_rt, tn_ex, b_fdiv, b_mod, max_two, min_two, ixl, ixt, ixl_last, ixl_zero, ixt_zero, ixs, ixs_last, ixT0, ixT1, ixT12, ixT22, ixL0, ixL1, ixM0, ixM1, ixM2, lenS, slS, rvS, catS, appL, unp2, unp3, r1, r2, r2one, e_comp2, it_nth, nat1, nat1l, natA, natM, natD, natR, natS, natS1, natE, natL, natLe, natL0, natN0, nat0, max_nats, Bool.not_eq_true', Bool.not_eq_false', List.length_map, List.length_append, List.length_range, Bool.true_or, Bool.false_or, Bool.or_true, Bool.or_false, Bool.and_false, Bool.false_and, Bool.or_self, decide_eq_false_iff_not, Nat.lt_irrefl, Bool.not_eq_eq_eq_not, not_true, not_false_iff, Nat.not_lt_zero, $xs,*])
section
variable {s : List Nat} {rows : List (List Nat)} {marks : List Bool}
abbrev swapD (s u w : List Nat) : RA.D := .tup [.str [115, 119, 97, 112], .str (sp s u), .str (sp s w)]
structure SBar (s : List Nat) (rows : List (List Nat)) (marks : List Bool) (u w : List Nat) : Prop where
  wd : Wd s.length u ∧ Wd s.length w
  len : u.length ≤ 60 ∧ w.length ≤ 60
  prm : u.Perm w
  yes : it marks (goes (go rows) 0 u) = true
  no : it marks (goes (go rows) 0 w) = false
theorem sbar_of {h t : List Nat} {i j : Nat} (S : Swap s rows marks h t i j) (y : it marks (goes (go rows) 0 (h ++ [i, j] ++ t)) = true) : SBar s rows marks (h ++ [i, j] ++ t) (h ++ [j, i] ++ t) := by
  have wij : ∀ i j, i < s.length → j < s.length → Wd s.length [i, j] := fun i j hi hj => (Wd.nil.cons hj).cons hi
  have hl := S.len
  refine ⟨⟨(S.hd.app (wij i j S.hi S.hj)).app S.tl, (S.hd.app (wij j i S.hj S.hi)).app S.tl⟩, ⟨by simp only [List.length_append, List.length_cons, List.length_nil]; omega, by simp only [List.length_append, List.length_cons, List.length_nil]; omega⟩, ?_, y, ?_⟩
  · exact ((List.Perm.refl h).append (List.Perm.swap j i [])).append_right t
  · have d := S.dif
    rw [y] at d
    exact Bool.eq_false_iff.mpr fun z => d z.symm
abbrev papD (rows : List (List Nat)) (marks : List Bool) (zs : List (Nat × Nat)) : RA.D := .tup [.lst (zs.map PE2), .lst (((tabs zs).filter (accT rows marks)).map (fun r : List Nat => RA.D.tup (r.map (fun (n : Nat) => RA.D.int n))))]
structure Zs (s : List Nat) (rows : List (List Nat)) (zs : List (Nat × Nat)) : Prop where
  len : zs.length = s.length
  rho : ∀ k < s.length, Rho (orb rows k) (it zs k).1 (it zs k).2 ∧ (it zs k).1 + (it zs k).2 ≤ rows.length
theorem Zs.pos {zs : List (Nat × Nat)} (Z : Zs s rows zs) : ∀ z ∈ zs, 0 < z.2 := fun z hz => by
  obtain ⟨i, hi, rfl⟩ := List.mem_iff_getElem.mp hz
  have := (Z.rho i (by rw [← Z.len]; exact hi)).1.pos
  rwa [it_of (List.getElem?_eq_getElem hi)] at this
theorem Zs.le {zs : List (Nat × Nat)} (Z : Zs s rows zs) (hn : rows.length ≤ 8) : ∀ z ∈ zs, z.1 + z.2 ≤ 8 := fun z hz => by
  obtain ⟨i, hi, rfl⟩ := List.mem_iff_getElem.mp hz
  have := (Z.rho i (by rw [← Z.len]; exact hi)).2
  rw [it_of (List.getElem?_eq_getElem hi)] at this
  omega
/-! the law's rows are the paper's -/
section
variable {rows' : List (List Nat)} {marks' : List Bool}
theorem orb_alike (M : Mach s rows marks) (M' : Mach s rows' marks') (K : Canon s.length rows'.length (go rows') (it marks')) (lg : Lng s rows rows' marks marks') (cm : Cmt s.length rows'.length (go rows')) {k : Nat} (hk : k < s.length) (i j : Nat) :
    orb rows' k i = orb rows' k j ↔ ∀ w, Wd s.length w → alike s.length (go rows) (it marks) (ob (fun q => go rows q k) (goes (go rows) 0 w) i) (ob (fun q => go rows q k) (goes (go rows) 0 w) j) := by
  have C' := M'.rws.clo
  have wr : ∀ i, Wd s.length (List.replicate i k) := fun i x hx => by rw [List.eq_of_mem_replicate hx]; exact hk
  have one : ∀ i (w v : List Nat), Wd s.length w → Wd s.length v → it marks (goes (go rows) (ob (fun q => go rows q k) (goes (go rows) 0 w) i) v) = it marks' (goes (go rows') (ob (fun q => go rows' q k) (goes (go rows') 0 w) i) v) := fun i w v hw hv => by
    have := lg (w ++ List.replicate i k ++ v) ((hw.app (wr i)).app hv)
    rw [goes_app, goes_app, goes_app, goes_app, goes_rep, goes_rep] at this
    exact this.symm
  constructor
  · intro e w hw v hv
    rw [one i w v hw hv, one j w v hw hv]
    have h2 : goes (go rows') 0 w < rows'.length := C'.goes M'.pos hw
    rw [cm.ob C' M'.pos K.rch hk e _ h2]
  · intro h
    refine K.unq _ (orb_lt M' hk i) _ (orb_lt M' hk j) fun v hv => ?_
    have := h [] Wd.nil v hv
    rw [one i [] v Wd.nil hv, one j [] v Wd.nil hv] at this
    exact this
theorem low_is (M : Mach s rows marks) (hn : rows.length ≤ 8) (M' : Mach s rows' marks') (hn' : rows'.length ≤ 8) (K : Canon s.length rows'.length (go rows') (it marks')) (lg : Lng s rows rows' marks marks') (cm : Cmt s.length rows'.length (go rows')) {zs : List (Nat × Nat)} (Z : Zs s rows' zs) {k : Nat} (hk : k < s.length) :
    m_law_low_and_rest [mD s rows marks, .int k] = .ok (false, PE2 (it zs k)) := by
  obtain ⟨z, e, R⟩ := low_rest_ok M (by omega) hk (y := orb rows' k) (orb_lt M' hk) (by omega) (orb_alike M M' K lg cm hk)
  obtain ⟨e1, e2⟩ := R.uniq (Z.rho k hk).1
  rw [e]
  have : z = it zs k := Prod.ext e1 e2
  rw [this]
theorem acc_same (M : Mach s rows marks) (lg : Lng s rows rows' marks marks') {zs : List (Nat × Nat)} (hl : zs.length = s.length) : (tabs zs).filter (accT rows marks) = (tabs zs).filter (accT rows' marks') := by
  refine List.filter_congr fun t ht => ?_
  have h := ((tabs_mem zs t).mp ht).1
  exact (lg _ (wb_wd (by omega))).symm
theorem told_in (M : Mach s rows marks) (M' : Mach s rows' marks') (K : Canon s.length rows'.length (go rows') (it marks')) (lg : Lng s rows rows' marks marks') (cm : Cmt s.length rows'.length (go rows')) {zs : List (Nat × Nat)} (Z : Zs s rows' zs) {V : List Nat} (hV : Wd s.length V) :
    it marks (goes (go rows) 0 V) = decide (told1 s.length zs V ∈ (tabs zs).filter (accT rows' marks')) := by
  have tg := told_goes M'.rws.clo cm M'.pos K.rch (fun k hk => (Z.rho k hk).1) hV
  have tm : told1 s.length zs V ∈ tabs zs := (tabs_mem zs _).mpr ⟨by unfold told1; rw [List.length_map, List.length_range, Z.len], fun i hi => by
    have hi2 : i < s.length := by rw [← Z.len]; exact hi
    rw [show nth (told1 s.length zs V) i = fold1 (it zs i) (V.count i) from nth_of (by unfold told1; rw [List.getElem?_map, List.getElem?_range hi2]; rfl)]
    exact fold1_lt (Z.rho i hi2).1.pos _⟩
  have e : accT rows' marks' (told1 s.length zs V) = it marks (goes (go rows) 0 V) := by
    unfold accT
    rw [tg]; exact lg V hV
  rw [Bool.eq_iff_iff, decide_eq_true_eq, List.mem_filter, e]
  exact ⟨fun h => ⟨tm, h⟩, fun h => h.2⟩
end
theorem plain_row {r : List Nat} (h : r.length ≤ 1000000) : plainD ((fun r : List Nat => RA.D.tup (r.map (fun (n : Nat) => RA.D.int n))) r) = true ∧ depD ((fun r : List Nat => RA.D.tup (r.map (fun (n : Nat) => RA.D.int n))) r) ≤ 1 := by
  constructor
  · simp only [plainD, Bool.and_eq_true, decide_eq_true_eq, List.length_map]
    refine ⟨plainL_of fun b hb => ?_, by omega⟩
    obtain ⟨x, _, rfl⟩ := List.mem_map.mp hb
    rfl
  · have : depL (r.map (fun (n : Nat) => RA.D.int n)) ≤ 0 := depL_of fun b hb => by
      obtain ⟨x, _, rfl⟩ := List.mem_map.mp hb
      exact Nat.le_refl _
    simp only [depD]; omega
theorem same_pap {zs : List (Nat × Nat)} {T : List (List Nat)} (h1 : zs.length ≤ 1000) (h2 : T.length ≤ 1000) (h3 : ∀ t ∈ T, t.length ≤ 1000) : m_law_same [.tup [.lst (zs.map PE2), .lst (T.map (fun r : List Nat => RA.D.tup (r.map (fun (n : Nat) => RA.D.int n))))], .tup [.lst (zs.map PE2), .lst (T.map (fun r : List Nat => RA.D.tup (r.map (fun (n : Nat) => RA.D.int n))))]] = .ok (false, .bl true) := by
  have p : plainD (.tup [.lst (zs.map PE2), .lst (T.map (fun r : List Nat => RA.D.tup (r.map (fun (n : Nat) => RA.D.int n))))]) = true := by
    simp only [plainD, plainL, Bool.and_eq_true, decide_eq_true_eq, List.length_map, List.length_cons, List.length_nil, and_true, true_and]
    refine ⟨⟨⟨plainL_of fun a ha => ?_, by omega⟩, plainL_of fun a ha => ?_, by omega⟩, by omega⟩
    · obtain ⟨z, _, rfl⟩ := List.mem_map.mp ha
      rfl
    · obtain ⟨r, hr, rfl⟩ := List.mem_map.mp ha
      exact (plain_row (by have := h3 r hr; omega)).1
  have d : depD (.tup [.lst (zs.map PE2), .lst (T.map (fun r : List Nat => RA.D.tup (r.map (fun (n : Nat) => RA.D.int n))))]) < 8 := by
    have d1 : depL (zs.map PE2) ≤ 1 := depL_of fun a ha => by
      obtain ⟨z, _, rfl⟩ := List.mem_map.mp ha
      exact Nat.le_refl _
    have d2 : depL (T.map (fun r : List Nat => RA.D.tup (r.map (fun (n : Nat) => RA.D.int n)))) ≤ 1 := depL_of fun a ha => by
      obtain ⟨r, hr, rfl⟩ := List.mem_map.mp ha
      exact (plain_row (by have := h3 r hr; omega)).2
    simp only [depD, depL]
    omega
  refine (same_ok 8 _ _ d p p).trans ?_
  rw [sameD_refl _ p]
end
theorem word_ix {s : List Nat} (L : Ltrs s) (cs : List Int) (hc : cs.length ≤ 1000) : ∃ W, m_law_word [.str s, .lst (cs.map .int)] = .ok (false, .str (sp s W)) ∧ Wd s.length W ∧ W.length = cs.length := by
  obtain ⟨h1, h2, h3⟩ := word_made_ok L cs hc
  obtain ⟨W, hW, e⟩ := ov_sp h2
  refine ⟨W, by rw [e]; exact h1, hW, ?_⟩
  rw [← h3, ← e, sp_len]
end RA
/-! K54: sets told by how many times each letter stands. -/
namespace RA
open PySem PySem.Spec PyProof.Rows L2
/- 344 kind_of(kind); slots: 0=kind; calls:  -/
def i_kind_of_3 : IS := (.seq (.if_ (.cmp .eq (.v 0) (.k (.str [102, 105, 114, 115, 116]))) (.seq (.nev) .nil) .nil) (.seq (.if_ (.cmp .eq (.v 0) (.k (.str [108, 97, 115, 116]))) (.seq (.nev) .nil) .nil) (.seq (.if_ (.cmp .eq (.v 0) (.k (.str [119, 105, 116, 104, 105, 110]))) (.seq (.nev) .nil) .nil) (.seq (.if_ (.cmp .eq (.v 0) (.k (.str [116, 97, 108, 108, 121]))) (.seq (.ret (.xt (.mk 307 "Tally") .nil)) .nil) .nil) (.seq (.if_ (.cmp .eq (.v 0) (.k (.str [99, 111, 117, 110, 116, 115]))) (.seq (.nev) .nil) .nil) (.seq (.if_ (.cmp .eq (.v 0) (.k (.str [111, 110, 119, 97, 114, 100]))) (.seq (.nev) .nil) .nil) (.seq (.if_ (.cmp .eq (.v 0) (.k (.str [112, 108, 97, 105, 110]))) (.seq (.nev) .nil) .nil) (.seq (.nev) .nil))))))))
def f_kind_of_3 : FT := fun _ _ => .no
def m_kind_of_3 : List RA.D → Rs (Bool × RA.D) := mk 1 1 f_kind_of_3 i_kind_of_3
/- 348 Tally.bar(self, machine); slots: 0=self 1=machine 2=pair; calls: 347=swapped -/
def i_Tally_bar : IS := (.seq (.set 2 (.call 347 (.cons (.v 1) .nil))) (.seq (.if_ (.cmp .isn (.v 2) (.k .non)) (.seq (.ret (.k .non)) .nil) .nil) (.seq (.ret (.tup (.cons (.k (.str [115, 119, 97, 112])) (.cons (.ix (.v 2) (.k (.int 0))) (.cons (.ix (.v 2) (.k (.int 1))) .nil))))) .nil)))
def f_Tally_bar : FT := fun n ds => match n, ds with | 347, ds => m_swapped ds | _, _ => .no
@[simp] theorem f_Tally_bar_347 (ds : List RA.D) : f_Tally_bar 347 ds = m_swapped ds := (rfl)
def m_Tally_bar : List RA.D → Rs (Bool × RA.D) := mk 2 3 f_Tally_bar i_Tally_bar
/- 352 Tally.paper(self, machine); slots: 0=self 1=machine 2=rows 3=k; calls: 349=row_of 351=table_of -/
def i_Tally_paper : IS := (.seq (.set 2 (.comp (.one 3) (.rng1 (.bi .len (.cons (.ix (.v 1) (.k (.int 0))) .nil))) (.k (.bl true)) (.call 349 (.cons (.v 1) (.cons (.v 3) .nil))))) (.seq (.ret (.tup (.cons (.v 2) (.cons (.call 351 (.cons (.v 1) (.cons (.v 2) .nil))) .nil)))) .nil))
def f_Tally_paper : FT := fun n ds => match n, ds with | 349, ds => m_row_of ds | 351, ds => m_table_of ds | _, _ => .no
@[simp] theorem f_Tally_paper_349 (ds : List RA.D) : f_Tally_paper 349 ds = m_row_of ds := (rfl)
@[simp] theorem f_Tally_paper_351 (ds : List RA.D) : f_Tally_paper 351 ds = m_table_of ds := (rfl)
def m_Tally_paper : List RA.D → Rs (Bool × RA.D) := mk 2 4 f_Tally_paper i_Tally_paper
/- 353 Kind.tell(self, machine); slots: 0=self 1=machine 2=small 3=bar; calls: 47=least 348=Tally_bar 352=Tally_paper -/
def i_Kind_tell_3 : IS := (.seq (.set 2 (.call 47 (.cons (.v 1) .nil))) (.seq (.set 3 (.xt (.mth "bar" [(307, 348)]) (.cons (.v 0) (.cons (.v 2) .nil)))) (.seq (.if_ (.cmp .isn (.v 3) (.k .non)) (.seq (.ret (.tup (.cons (.k (.bl true)) (.cons (.xt (.mth "paper" [(307, 352)]) (.cons (.v 0) (.cons (.v 2) .nil))) .nil)))) .nil) .nil) (.seq (.ret (.tup (.cons (.k (.bl false)) (.cons (.v 3) .nil)))) .nil))))
def f_Kind_tell_3 : FT := fun n ds => match n, ds with | 47, ds => m_least ds | 348, ds => m_Tally_bar ds | 352, ds => m_Tally_paper ds | _, _ => .no
@[simp] theorem f_Kind_tell_3_47 (ds : List RA.D) : f_Kind_tell_3 47 ds = m_least ds := (rfl)
@[simp] theorem f_Kind_tell_3_348 (ds : List RA.D) : f_Kind_tell_3 348 ds = m_Tally_bar ds := (rfl)
@[simp] theorem f_Kind_tell_3_352 (ds : List RA.D) : f_Kind_tell_3 352 ds = m_Tally_paper ds := (rfl)
def m_Kind_tell_3 : List RA.D → Rs (Bool × RA.D) := mk 2 4 f_Kind_tell_3 i_Kind_tell_3
/- 354 tell(kind, machine); slots: 0=kind 1=machine; calls: 344=kind_of_3 353=Kind_tell_3 -/
def i_tell_3 : IS := (.seq (.ret (.xt (.mth "tell" [(307, 353)]) (.cons (.call 344 (.cons (.v 0) .nil)) (.cons (.v 1) .nil)))) .nil)
def f_tell_3 : FT := fun n ds => match n, ds with | 344, ds => m_kind_of_3 ds | 353, ds => m_Kind_tell_3 ds | _, _ => .no
@[simp] theorem f_tell_3_344 (ds : List RA.D) : f_tell_3 344 ds = m_kind_of_3 ds := (rfl)
@[simp] theorem f_tell_3_353 (ds : List RA.D) : f_tell_3 353 ds = m_Kind_tell_3 ds := (rfl)
def m_tell_3 : List RA.D → Rs (Bool × RA.D) := mk 2 2 f_tell_3 i_tell_3
/- 375 law(_law_script); slots: 0=_law_script 1=_law_letters_here 2=_law_machine_here 3=_law_found 4=_law_rows 5=_law_numbers 6=_law_k; calls: 22=law_letters_2 314=law_built 354=tell_3 355=law_table_2 372=law_beginnings_2 6=law_cell_at 360=law_low_and_rest 69=law_same 13=law_word 373=law_swap_2 -/
def i_law_top_51 : IS := (.seq (.set 1 (.call 22 (.cons (.call 6 (.cons (.v 0) (.cons (.k (.int 1)) .nil))) .nil))) (.seq (.set 2 (.call 314 (.cons (.v 0) (.cons (.v 1) (.cons (.b .mod (.call 6 (.cons (.v 0) (.cons (.k (.int 0)) .nil))) (.k (.int 6))) .nil))))) (.seq (.set 3 (.call 354 (.cons (.k (.str [116, 97, 108, 108, 121])) (.cons (.v 2) .nil)))) (.seq (.if_ (.or_ (.not_ (.bi .isTup (.cons (.v 3) .nil))) (.or_ (.cmp .ne (.bi .len (.cons (.v 3) .nil)) (.k (.int 2))) (.not_ (.bi .isBool (.cons (.ix (.v 3) (.k (.int 0))) .nil))))) (.seq (.ret (.k (.bl false))) .nil) .nil) (.seq (.if_ (.not_ (.ix (.v 3) (.k (.int 0)))) (.seq (.ret (.and_ (.bi .isTup (.cons (.ix (.v 3) (.k (.int 1))) .nil)) (.call 373 (.cons (.v 2) (.cons (.ix (.v 3) (.k (.int 1))) .nil))))) .nil) .nil) (.seq (.set 4 (.comp (.one 6) (.rng1 (.bi .len (.cons (.v 1) .nil))) (.k (.bl true)) (.call 360 (.cons (.v 2) (.cons (.v 6) .nil))))) (.seq (.set 5 (.call 355 (.cons (.v 2) (.cons (.v 4) .nil)))) (.seq (.if_ (.not_ (.call 69 (.cons (.ix (.v 3) (.k (.int 1))) (.cons (.tup (.cons (.v 4) (.cons (.v 5) .nil))) .nil)))) (.seq (.ret (.k (.bl false))) .nil) .nil) (.seq (.ret (.call 372 (.cons (.v 2) (.cons (.v 4) (.cons (.v 5) (.cons (.call 13 (.cons (.v 1) (.cons (.sl (.v 0) (.k (.int 12)) (.k (.int 62))) .nil))) .nil)))))) .nil)))))))))
def f_law_top_51 : FT := fun n ds => match n, ds with | 22, ds => m_law_letters_2 ds | 314, ds => m_law_built ds | 354, ds => m_tell_3 ds | 355, ds => m_law_table_2 ds | 372, ds => m_law_beginnings_2 ds | 6, ds => m_law_cell_at ds | 360, ds => m_law_low_and_rest ds | 69, ds => m_law_same ds | 13, ds => m_law_word ds | 373, ds => m_law_swap_2 ds | _, _ => .no
@[simp] theorem f_law_top_51_22 (ds : List RA.D) : f_law_top_51 22 ds = m_law_letters_2 ds := (rfl)
@[simp] theorem f_law_top_51_314 (ds : List RA.D) : f_law_top_51 314 ds = m_law_built ds := (rfl)
@[simp] theorem f_law_top_51_354 (ds : List RA.D) : f_law_top_51 354 ds = m_tell_3 ds := (rfl)
@[simp] theorem f_law_top_51_355 (ds : List RA.D) : f_law_top_51 355 ds = m_law_table_2 ds := (rfl)
@[simp] theorem f_law_top_51_372 (ds : List RA.D) : f_law_top_51 372 ds = m_law_beginnings_2 ds := (rfl)
@[simp] theorem f_law_top_51_6 (ds : List RA.D) : f_law_top_51 6 ds = m_law_cell_at ds := (rfl)
@[simp] theorem f_law_top_51_360 (ds : List RA.D) : f_law_top_51 360 ds = m_law_low_and_rest ds := (rfl)
@[simp] theorem f_law_top_51_69 (ds : List RA.D) : f_law_top_51 69 ds = m_law_same ds := (rfl)
@[simp] theorem f_law_top_51_13 (ds : List RA.D) : f_law_top_51 13 ds = m_law_word ds := (rfl)
@[simp] theorem f_law_top_51_373 (ds : List RA.D) : f_law_top_51 373 ds = m_law_swap_2 ds := (rfl)
def m_law_top_51 : List RA.D → Rs (Bool × RA.D) := mk 1 7 f_law_top_51 i_law_top_51
local macro_rules | `(tactic| dsimp! [$xs,*]) => `(tactic| simp (disch := first | assumption | omega | (simp only [List.length_map, List.length_append, List.length_cons, List.length_nil, List.length_range, List.length_set]; omega) | decide | rfl) only [tstO_eq, x_seq, x_set, x_own, x_do, x_if, x_for, x_whl, x_ret, x_retN, x_pass, x_brk, x_cnt, x_rse, x_fgt, x_frz, x_retp, x_app, x_aug, x_unp, x_put, e_v, e_pk, e_k, e_gl, e_b, e_neg, e_cmp, e_and, e_or, e_not, e_ife, e_tup, e_lst, e_dct, e_dct1, e_lset, e_ix, e_sl, e_rv, rv_lst, e_out, e_bi, e_me, e_call, es_nil, es_cons, i_ex, i_rng1, i_rng2, i_zip, i_rev, valO_ok, pkO_ok, glO_ok, negO_ok, frzO_ok, retO_ok, augO_add, augO_sub, walkO_lst, walkO_tup, walkO_str, zipO_ok, zipI_ok, revO_ok, asB_ok, items_lst, items_tup, items_str, bindT_one, bindT_tup, setAll_nil, setAll_cons, forget_nil, forget_cons, prt_int, prt_out, isOut, keepOk_nil, keepOk_cons, recv_str, b_add, b_sub, c_lt, c_le, c_gt, c_ge, c_ltS, c_gtS, c_eqI, c_neI, c_eqS, c_neS, c_eqB, c_neB, c_isn, c_isnt, c_memS, c_nmemS, sl_lst, len_lst, len_tup, is_str, is_intI, is_boolI, is_boolB, tuple_lst, list_lst, list_tup, find_one, seqO_nx, seqO_no, seqO_rt, seqO_ex, seqO_bk, seqO_ct, seqO_seqO, seqO_ite, x_nil, sat_nx, sat_rt, sat_ex, sat_thru, sat_thru_ct, sat_nxt, sat_t1, sat_t1c, sat_t1r, sat_t1e, Rs.bind_ok, Rs.bind_ex, Rs.out_ok, Rs.out_ex, List.set_cons_succ, List.set_cons_zero, List.getElem?_cons_succ, List.getElem?_cons_zero, List.map_cons, List.map_nil, List.cons_append, List.nil_append, startG, List.reduceReplicate, List.length_cons, List.length_nil, Nat.reduceAdd, Nat.reduceSub, Nat.zero_add, Nat.add_zero, Nat.zero_le, Nat.reduceLeDiff, List.append_nil, reduceCtorEq, if_true, if_false, ite_true, ite_false, ne_eq, not_false_eq_true, not_true_eq_false, decide_true, decide_false, decide_not, Bool.not_true, Bool.not_false, Bool.and_true, Bool.true_and, Bool.and_self, Bool.false_eq_true, and_self, and_true, true_and, decide_eq_true_eq, Int.reduceEq, Int.cast_ofNat_Int, Int.reduceNe, Int.reduceLT, Int.reduceLE, Int.reduceNeg, Int.reduceAdd, Int.reduceSub, tgSlots, freeAt, List.all_cons, List.all_nil, isNon_non, isNon_str, isNon_int, isNon_bl, isNon_tup, isNon_lst, isNon_opq, fin_nx, fin_rt, fin_ex, e_xt, Bool.true_eq_false, eq_self, isc_non, isc_opq, x_xs, x_try, tryO_nx, tryO_rt, tryO_ex, hdG_as, hdG_cst, List.contains_cons, List.contains_nil, Nat.reduceBEq, beq_self_eq_true, up_nil, up_cons, tn_nx, tn_ct, tn_bk, tn_rt, tn_ex, b_fdiv, b_mod, max_two, min_two, ixl, ixt, ixl_last, ixl_zero, ixt_zero, ixs, ixs_last, ixT0, ixT1, ixT12, ixT22, ixL0, ixL1, ixM0, ixM1, ixM2, lenS, slS, rvS, catS, appL, unp2, unp3, r1, r2, r2one, e_comp2, it_nth, nat1, nat1l, natA, natM, natD, natR, natS, natS1, natE, natL, natLe, natL0, natN0, nat0, max_nats, Bool.not_eq_true', Bool.not_eq_false', List.length_map, List.length_append, List.length_range, Bool.true_or, Bool.false_or, Bool.or_true, Bool.or_false, Bool.and_false, Bool.false_and, Bool.or_self, decide_eq_false_iff_not, Nat.lt_irrefl, Bool.not_eq_eq_eq_not, not_true, not_false_iff, Nat.not_lt_zero, f_Tally_bar_347, f_Tally_paper_349, f_Tally_paper_351, f_Kind_tell_3_47, f_Kind_tell_3_348, f_Kind_tell_3_352, f_tell_3_344, f_tell_3_353, f_law_top_51_22, f_law_top_51_314, f_law_top_51_354, f_law_top_51_355, f_law_top_51_372, f_law_top_51_6, f_law_top_51_360, f_law_top_51_69, f_law_top_51_13, f_law_top_51_373, $xs,*])
section
variable {s : List Nat} {rows : List (List Nat)} {marks : List Bool}
theorem tally_bar_ok (M : Mach s rows marks) (hn : rows.length ≤ 8) (d : RA.D) (K : Canon s.length rows.length (go rows) (it marks)) :
    (∃ u w, m_Tally_bar [d, mD s rows marks] = .ok (false, swapD s u w) ∧ SBar s rows marks u w) ∨ (m_Tally_bar [d, mD s rows marks] = .ok (false, .non) ∧ Cmt s.length rows.length (go rows)) := by
  refine mk_sat (R := fun z => (∃ u w, z = .ok (false, swapD s u w) ∧ SBar s rows marks u w) ∨ (z = .ok (false, .non) ∧ Cmt s.length rows.length (go rows))) rfl ?_
  unfold i_Tally_bar
  rcases swapped_ok M hn K with ⟨h, t, i, j, e, S, y⟩ | ⟨e, c⟩
  · have x0 : ixD (.tup [.str (sp s (h ++ [i, j] ++ t)), .str (sp s (h ++ [j, i] ++ t))]) (.int 0) = .ok (.str (sp s (h ++ [i, j] ++ t))) := rfl
    have x1 : ixD (.tup [.str (sp s (h ++ [i, j] ++ t)), .str (sp s (h ++ [j, i] ++ t))]) (.int 1) = .ok (.str (sp s (h ++ [j, i] ++ t))) := rfl
    have sb := sbar_of S y
    generalize h ++ [i, j] ++ t = u at e x0 x1 sb
    generalize h ++ [j, i] ++ t = w at e x0 x1 sb
    dsimp! [e, x0, x1]
    exact .inl ⟨u, w, rfl, sb⟩
  · dsimp! [e]
    exact .inr ⟨rfl, cmt_of c⟩
theorem tally_paper_ok (M : Mach s rows marks) (hn : rows.length ≤ 8) (d : RA.D) : ∃ zs, m_Tally_paper [d, mD s rows marks] = .ok (false, papD rows marks zs) ∧ Zs s rows zs := by
  refine mk_sat (R := fun z => ∃ zs, z = .ok (false, papD rows marks zs) ∧ Zs s rows zs) rfl ?_
  unfold i_Tally_paper
  have sl := M.ltrs.le
  obtain ⟨zf, hz⟩ : ∃ zf : Nat → Nat × Nat, ∀ k < s.length, m_row_of [mD s rows marks, .int (k : Nat)] = .ok (false, PE2 (zf k)) ∧ Rho (orb rows k) (zf k).1 (zf k).2 ∧ (zf k).1 + (zf k).2 ≤ rows.length := by
    refine ⟨fun k => if h : k < s.length then (row_of_ok M (by omega) h).choose else (0, 0), fun k hk => ?_⟩
    dsimp only
    rw [dif_pos hk]
    exact (row_of_ok M (by omega) hk).choose_spec
  have Z : Zs s rows ((List.range s.length).map zf) := ⟨by rw [List.length_map, List.length_range], fun k hk => by
    rw [it_of (x := zf k) (by rw [List.getElem?_map, List.getElem?_range hk]; rfl)]; exact (hz k hk).2⟩
  have tb := table_of_ok M Z.len (Z.le hn)
  rw [List.map_map] at tb
  dsimp! [rng_map]
  rw [comp_of (xs := List.range s.length) (fun k => PE2 (zf k)) rfl (by rw [List.length_range]; omega) fun j k hk hj => ⟨_, rfl, .val, by decide, by
    have e := (hz k (List.mem_range.mp (List.mem_of_getElem? hk))).1
    dsimp! [e]⟩]
  have tb : m_table_of [mD s rows marks, .lst ((List.range s.length).map fun k => PE2 (zf k))] = .ok (true, .lst (((tabs ((List.range s.length).map zf)).filter (accT rows marks)).map (fun r : List Nat => RA.D.tup (r.map (fun (n : Nat) => RA.D.int n))))) := tb
  dsimp! [tb]
  refine ⟨(List.range s.length).map zf, ?_, Z⟩
  show Rs.ok (false, RA.D.tup [_, _]) = Rs.ok (false, RA.D.tup [.lst (((List.range s.length).map zf).map PE2), _])
  rw [List.map_map]; rfl
/-! asked -/
theorem kind_tally : m_kind_of_3 [.str [116, 97, 108, 108, 121]] = .ok (false, .opq 307 []) := by
  refine mk_sat (R := fun z => z = .ok (false, .opq 307 [])) rfl ?_
  unfold i_kind_of_3
  have e1 : ([116, 97, 108, 108, 121] : List Nat) = [102, 105, 114, 115, 116] ↔ False := by decide
  have e2 : ([116, 97, 108, 108, 121] : List Nat) = [108, 97, 115, 116] ↔ False := by decide
  have e3 : ([116, 97, 108, 108, 121] : List Nat) = [119, 105, 116, 104, 105, 110] ↔ False := by decide
  dsimp! [mk_at, e1, e2, e3]
abbrev talS : RA.D := .str [116, 97, 108, 108, 121]
theorem tell_tally (M : Mach s rows marks) (hn : rows.length ≤ 8) : ∃ rows' marks', Mach s rows' marks' ∧ Canon s.length rows'.length (go rows') (it marks') ∧ rows'.length ≤ rows.length ∧ Lng s rows rows' marks marks' ∧
    ((∃ u w, m_tell_3 [talS, mD s rows marks] = .ok (false, .tup [.bl false, swapD s u w]) ∧ SBar s rows' marks' u w) ∨ ∃ zs, m_tell_3 [talS, mD s rows marks] = .ok (false, .tup [.bl true, papD rows' marks' zs]) ∧ Zs s rows' zs ∧ Cmt s.length rows'.length (go rows')) := by
  obtain ⟨rows', marks', el, M', K, hl, lg⟩ := least_ok M (by omega)
  refine ⟨rows', marks', M', K, hl, lg, ?_⟩
  have top : ∀ d, m_Kind_tell_3 [.opq 307 [], mD s rows marks] = .ok (false, d) → m_tell_3 [talS, mD s rows marks] = .ok (false, d) := fun d e => by
    refine mk_sat (R := fun z => z = .ok (false, d)) rfl ?_
    unfold i_tell_3
    have t1 : xtD f_tell_3 (.mth "tell" [(307, 353)]) [(.val, .opq 307 []), (.val, mD s rows marks)] = .ok (.val, d) := mth1 (n := 307) (g := 353) (cs := []) (as := [(.val, mD s rows marks)]) rfl ((f_tell_3_353 _).trans e)
    dsimp! [kind_tally, t1]
  rcases tally_bar_ok M' (by omega) (.opq 307 []) K with ⟨u, w, eb, hb⟩ | ⟨eb, cm⟩
  · refine .inl ⟨u, w, top _ ?_, hb⟩
    refine mk_sat (R := fun z => z = .ok (false, .tup [.bl false, swapD s u w])) rfl ?_
    unfold i_Kind_tell_3
    have t1 : xtD f_Kind_tell_3 (.mth "bar" [(307, 348)]) [(.val, .opq 307 []), (.val, mD s rows' marks')] = .ok (.val, swapD s u w) := mth1 (n := 307) (g := 348) (cs := []) (as := [(.val, mD s rows' marks')]) rfl ((f_Kind_tell_3_348 _).trans eb)
    have t2 : isNon (swapD s u w) = false := rfl
    dsimp! [el, t1, t2]
  · obtain ⟨zs, ep, Z⟩ := tally_paper_ok M' (by omega) (.opq 307 [])
    refine .inr ⟨zs, top _ ?_, Z, cm⟩
    refine mk_sat (R := fun z => z = .ok (false, .tup [.bl true, papD rows' marks' zs])) rfl ?_
    unfold i_Kind_tell_3
    have t1 : xtD f_Kind_tell_3 (.mth "bar" [(307, 348)]) [(.val, .opq 307 []), (.val, mD s rows' marks')] = .ok (.val, .non) := mth1 (n := 307) (g := 348) (cs := []) (as := [(.val, mD s rows' marks')]) rfl ((f_Kind_tell_3_348 _).trans eb)
    have t2 : xtD f_Kind_tell_3 (.mth "paper" [(307, 352)]) [(.val, .opq 307 []), (.val, mD s rows' marks')] = .ok (.val, papD rows' marks' zs) := mth1 (n := 307) (g := 352) (cs := []) (as := [(.val, mD s rows' marks')]) rfl ((f_Kind_tell_3_352 _).trans ep)
    dsimp! [el, t1, t2]
end
theorem law_holds (ns : List Int) (hns : ns.length ≤ 63) : m_law_top_51 [.lst (ns.map .int)] = .ok (false, .bl true) := by
  refine mk_sat (R := fun z => z = .ok (false, .bl true)) rfl ?_
  unfold i_law_top_51
  have c0 : m_law_cell_at [.lst (ns.map .int), .int 0] = .ok (false, .int (ns.getD 0 0)) := cell_at_ok ns 0
  have c1 : m_law_cell_at [.lst (ns.map .int), .int 1] = .ok (false, .int (ns.getD 1 0)) := cell_at_ok ns 1
  obtain ⟨s, es, L⟩ := letters2_ok (ns.getD 1 0)
  obtain ⟨k, ek, hk⟩ := mod_ix (show 0 < 6 by omega) (ns.getD 0 0)
  have d0 : binD .mod (.int (ns.getD 0 0)) (.int 6) = .ok (.val, .int k) := by
    rw [b_mod (by omega)]
    rw [← ek]; rfl
  obtain ⟨rows, marks, eb, M, hn⟩ := built_ok ns L hk
  obtain ⟨rows', marks', M', K, hl, lg, q⟩ := tell_tally M hn
  have sl := L.le
  have iT : ∀ xs : List RA.D, biD .isTup [.tup xs] = .ok (.val, .bl true) := fun xs => rfl
  rcases q with ⟨u, w, et, B⟩ | ⟨zs, et, Z, cm⟩
  · have sw := swap2_ok M B.wd.1 B.wd.2 B.len.1 B.len.2 B.prm ((lg u B.wd.1).symm.trans B.yes) ((lg w B.wd.2).symm.trans B.no)
    dsimp! [c0, c1, es, d0, eb, et, iT, sw]
  · have hn' : rows'.length ≤ 8 := by omega
    have ci : cutD (ns.map RA.D.int) (some 12) (some 62) = ((ns.drop 12).take 50).map .int := cutI (a := 12) (b := 62)
    have dl : ((ns.drop 12).take 50).length ≤ 50 := by rw [List.length_take]; omega
    generalize (ns.drop 12).take 50 = ds at ci dl
    obtain ⟨W, eW, hW, Wl⟩ := word_ix L ds (by omega)
    have zl := Z.len
    have ez : zs.map PE2 = (List.range s.length).map fun k => PE2 (it zs k) := by
      refine List.ext_getElem? fun i => ?_
      by_cases hi : i < s.length
      · rw [List.getElem?_map, List.getElem?_map, List.getElem?_range hi, it_get (by omega)]; rfl
      · rw [List.getElem?_eq_none (by rw [List.length_map]; omega), List.getElem?_eq_none (by rw [List.length_map, List.length_range]; omega)]
    have lt := law_table2_ok M zl (Z.le hn')
    rw [acc_same M lg zl] at lt
    have tl := tabs_pow (i := zs.length) (by omega) (Z.le hn')
    rw [List.take_length] at tl
    have sm := same_pap (zs := zs) (T := (tabs zs).filter (accT rows' marks')) (by omega) (Nat.le_trans (List.length_filter_le _ _) (by omega)) fun t ht => by
      have := ((tabs_mem zs t).mp (List.mem_filter.mp ht).1).1
      omega
    have bg := beginnings2_ok M zl Z.pos hW (by omega) (T := (tabs zs).filter (accT rows' marks')) fun V hV => told_in M M' K lg cm Z hV
    have lw := fun (k : Nat) (hk : k < s.length) => low_is M hn M' hn' K lg cm Z hk
    have eP : papD rows' marks' zs = .tup [.lst (zs.map PE2), .lst (((tabs zs).filter (accT rows' marks')).map (fun r : List Nat => RA.D.tup (r.map (fun (n : Nat) => RA.D.int n))))] := rfl
    rw [eP] at et
    generalize (tabs zs).filter (accT rows' marks') = T at et lt sm bg
    dsimp! [c0, c1, es, d0, eb, et, iT, rng_map]
    rw [comp_of (xs := List.range s.length) (fun k => PE2 (it zs k)) rfl (by rw [List.length_range]; omega) fun j r hr hj => ⟨_, rfl, .val, by decide, by
      have hr2 : r < s.length := List.mem_range.mp (List.mem_of_getElem? hr)
      dsimp! [lw r hr2]⟩]
    rw [← ez]
    dsimp! [lt, sm, ci, eW, bg]
end RA
namespace RA
open PySem PySem.Spec PyProof.Rows L2
/-! the law's own text: checks and facts -/
def tops (i : Nat) : Stmt := PySem.Challenge.pw_roomalgebra_k54_by_how_many_times.main.body.getD i (.Pass ⟨0, 0, 0, 0⟩)
def nms : Nat → Str := fun n => match n with | 22 => "_law_letters" | 6 => "_law_cell_at" | 309 => "_law_marks" | 310 => "_law_tallied" | 23 => "_law_machine" | 311 => "_law_forward" | 312 => "_law_memory" | 313 => "_law_lots" | 314 => "_law_built" | 344 => "kind_of" | 43 => "thinned" | 44 => "numbered" | 45 => "key_of" | 46 => "rounds" | 37 => "first_words" | 47 => "least" | 316 => "roads" | 52 => "first_parted" | 53 => "parting" | 345 => "takes_word" | 346 => "in_first" | 347 => "swapped" | 348 => "bar" | 349 => "row_of" | 350 => "word_by" | 351 => "table_of" | 352 => "paper" | 353 => "tell" | 354 => "tell" | 27 => "_law_after" | 117 => "_law_takes" | 355 => "_law_table" | 371 => "_law_told_by" | 372 => "_law_beginnings" | 358 => "_law_alike_rooms" | 359 => "_law_come_to" | 360 => "_law_low_and_rest" | 69 => "_law_same" | 13 => "_law_word" | 15 => "_law_is_word" | 325 => "_law_bar_words" | 373 => "_law_swap" | 375 => "law" | _ => ""
def s_law_letters_2 : Stat := { N := ["_law_cell", "_law_left", "_law_number", "_law_many", "_law_found", "_law_k", "_law_at"], nm := nms, us := [], gs := [], bs := ["range", "len"], F := f_law_letters_2, k := 0 }
def x_law_letters_2 : List (Nat × Str) := []
theorem sc_law_letters_2 : FnScope (s_law_letters_2).N ["_law_cell"] (defScope (tops 73)) := ⟨rfl, rfl, rfl, by decide +kernel, rfl, by decide +kernel, by decide +kernel⟩
theorem ck_law_letters_2 : okSts s_law_letters_2 x_law_letters_2 (defScope (tops 73)) i_law_letters_2 (defBody (tops 73)) = true := by decide +kernel
def s_law_cell_at : Stat := { N := ["_law_script", "_law_k"], nm := nms, us := [], gs := [], bs := ["len"], F := f_law_cell_at, k := 0 }
def x_law_cell_at : List (Nat × Str) := []
theorem sc_law_cell_at : FnScope (s_law_cell_at).N ["_law_script", "_law_k"] (defScope (tops 72)) := ⟨rfl, rfl, rfl, by decide +kernel, rfl, by decide +kernel, by decide +kernel⟩
theorem ck_law_cell_at : okSts s_law_cell_at x_law_cell_at (defScope (tops 72)) i_law_cell_at (defBody (tops 72)) = true := by decide +kernel
def s_law_marks : Stat := { N := ["_law_script", "_law_rooms", "_law_room"], nm := nms, us := [6], gs := [], bs := ["tuple", "range"], F := f_law_marks, k := 1 }
def x_law_marks : List (Nat × Str) := []
theorem sc_law_marks : FnScope (s_law_marks).N ["_law_script", "_law_rooms"] (defScope (tops 76)) := ⟨rfl, rfl, rfl, by decide +kernel, rfl, by decide +kernel, by decide +kernel⟩
theorem ck_law_marks : okSts s_law_marks x_law_marks (defScope (tops 76)) i_law_marks (defBody (tops 76)) = true := by decide +kernel
def s_law_tallied : Stat := { N := ["_law_script", "_law_letters_here", "_law_number", "_law_left", "_law_rows", "_law_tuples", "_law_sign", "_law_ways", "_law_some", "_law_size", "_law_low", "_law_longer", "_law_row", "_law_k", "_law_many"], nm := nms, us := [6, 309], gs := [], bs := ["range", "tuple", "len"], F := f_law_tallied, k := 2, xts := [.cat, .ctu] }
def x_law_tallied : List (Nat × Str) := []
theorem sc_law_tallied : FnScope (s_law_tallied).N ["_law_script", "_law_letters_here"] (defScope (tops 80)) := ⟨rfl, rfl, rfl, by decide +kernel, rfl, by decide +kernel, by decide +kernel⟩
theorem ck_law_tallied : okSts s_law_tallied x_law_tallied (defScope (tops 80)) i_law_tallied (defBody (tops 80)) = true := by decide +kernel
def s_law_machine : Stat := { N := ["_law_script", "_law_at", "_law_rooms", "_law_letters_here", "_law_ways", "_law_marks_here", "_law_number", "_law_k", "_law_rest", "_law_row", "_law_sign"], nm := nms, us := [6], gs := [], bs := ["range", "tuple"], F := f_law_machine, k := 1 }
def x_law_machine : List (Nat × Str) := []
theorem sc_law_machine : FnScope (s_law_machine).N ["_law_script", "_law_at", "_law_rooms", "_law_letters_here"] (defScope (tops 75)) := ⟨rfl, rfl, rfl, by decide +kernel, rfl, by decide +kernel, by decide +kernel⟩
theorem ck_law_machine : okSts s_law_machine x_law_machine (defScope (tops 75)) i_law_machine (defBody (tops 75)) = true := by decide +kernel
def s_law_forward : Stat := { N := ["_law_script", "_law_letters_here", "_law_strict", "_law_rooms", "_law_drawn", "_law_ends", "_law_ways", "_law_room", "_law_goal"], nm := nms, us := [23, 6], gs := [], bs := ["range", "tuple"], F := f_law_forward, k := 2 }
def x_law_forward : List (Nat × Str) := []
theorem sc_law_forward : FnScope (s_law_forward).N ["_law_script", "_law_letters_here", "_law_strict"] (defScope (tops 77)) := ⟨rfl, rfl, rfl, by decide +kernel, rfl, by decide +kernel, by decide +kernel⟩
theorem ck_law_forward : okSts s_law_forward x_law_forward (defScope (tops 77)) i_law_forward (defBody (tops 77)) = true := by decide +kernel
def s_law_memory : Stat := { N := ["_law_script", "_law_letters_here", "_law_size", "_law_places", "_law_labels", "_law_ways", "_law_at", "_law_row", "_law_sign", "_law_label"], nm := nms, us := [309, 6], gs := [], bs := ["len", "tuple"], F := f_law_memory, k := 2 }
def x_law_memory : List (Nat × Str) := []
theorem sc_law_memory : FnScope (s_law_memory).N ["_law_script", "_law_letters_here"] (defScope (tops 78)) := ⟨rfl, rfl, rfl, by decide +kernel, rfl, by decide +kernel, by decide +kernel⟩
theorem ck_law_memory : okSts s_law_memory x_law_memory (defScope (tops 78)) i_law_memory (defBody (tops 78)) = true := by decide +kernel
def s_law_lots : Stat := { N := ["_law_script", "_law_letters_here", "_law_ways", "_law_room", "_law_bit"], nm := nms, us := [309], gs := [], bs := ["range", "tuple", "len"], F := f_law_lots, k := 2 }
def x_law_lots : List (Nat × Str) := []
theorem sc_law_lots : FnScope (s_law_lots).N ["_law_script", "_law_letters_here"] (defScope (tops 79)) := ⟨rfl, rfl, rfl, by decide +kernel, rfl, by decide +kernel, by decide +kernel⟩
theorem ck_law_lots : okSts s_law_lots x_law_lots (defScope (tops 79)) i_law_lots (defBody (tops 79)) = true := by decide +kernel
def s_law_built : Stat := { N := ["_law_script", "_law_letters_here", "_law_kind"], nm := nms, us := [310, 23, 311, 312, 313, 6], gs := [], bs := [], F := f_law_built, k := 3 }
def x_law_built : List (Nat × Str) := []
theorem sc_law_built : FnScope (s_law_built).N ["_law_script", "_law_letters_here", "_law_kind"] (defScope (tops 81)) := ⟨rfl, rfl, rfl, by decide +kernel, rfl, by decide +kernel, by decide +kernel⟩
theorem ck_law_built : okSts s_law_built x_law_built (defScope (tops 81)) i_law_built (defBody (tops 81)) = true := by decide +kernel
def s_kind_of_3 : Stat := { N := ["kind"], nm := nms, us := [], gs := [], bs := [], F := f_kind_of_3, k := 0, xts := [.mk 307 "Tally"] }
def x_kind_of_3 : List (Nat × Str) := []
theorem sc_kind_of_3 : FnScope (s_kind_of_3).N ["kind"] (defScope (tops 69)) := ⟨rfl, rfl, rfl, by decide +kernel, rfl, by decide +kernel, by decide +kernel⟩
theorem ck_kind_of_3 : okSts s_kind_of_3 x_kind_of_3 (defScope (tops 69)) i_kind_of_3 (defBody (tops 69)) = true := by decide +kernel
def s_thinned : Stat := { N := ["letters", "ways", "marks", "lots", "rows", "truths", "room", "goal"], nm := nms, us := [], gs := [], bs := ["range", "len", "tuple"], F := f_thinned, k := 0 }
def x_thinned : List (Nat × Str) := []
theorem sc_thinned : FnScope (s_thinned).N ["letters", "ways", "marks", "lots"] (defScope (tops 15)) := ⟨rfl, rfl, rfl, by decide +kernel, rfl, by decide +kernel, by decide +kernel⟩
theorem ck_thinned : okSts s_thinned x_thinned (defScope (tops 15)) i_thinned (defBody (tops 15)) = true := by decide +kernel
def s_numbered : Stat := { N := ["keys", "numbers", "lots", "key"], nm := nms, us := [], gs := [], bs := ["len"], F := f_numbered, k := 0 }
def x_numbered : List (Nat × Str) := []
theorem sc_numbered : FnScope (s_numbered).N ["keys"] (defScope (tops 12)) := ⟨rfl, rfl, rfl, by decide +kernel, rfl, by decide +kernel, by decide +kernel⟩
theorem ck_numbered : okSts s_numbered x_numbered (defScope (tops 12)) i_numbered (defBody (tops 12)) = true := by decide +kernel
def s_key_of : Stat := { N := ["lots", "room", "row", "goal"], nm := nms, us := [], gs := [], bs := ["tuple"], F := f_key_of, k := 0 }
def x_key_of : List (Nat × Str) := []
theorem sc_key_of : FnScope (s_key_of).N ["lots", "room", "row"] (defScope (tops 13)) := ⟨rfl, rfl, rfl, by decide +kernel, rfl, by decide +kernel, by decide +kernel⟩
theorem ck_key_of : okSts s_key_of x_key_of (defScope (tops 13)) i_key_of (defBody (tops 13)) = true := by decide +kernel
def s_rounds : Stat := { N := ["ways", "marks", "most", "lots", "told", "after", "room"], nm := nms, us := [44, 45], gs := [], bs := ["max", "range", "len"], F := f_rounds, k := 1 }
def x_rounds : List (Nat × Str) := []
theorem sc_rounds : FnScope (s_rounds).N ["ways", "marks", "most"] (defScope (tops 14)) := ⟨rfl, rfl, rfl, by decide +kernel, rfl, by decide +kernel, by decide +kernel⟩
theorem ck_rounds : okSts s_rounds x_rounds (defScope (tops 14)) i_rounds (defBody (tops 14)) = true := by decide +kernel
def s_first_words : Stat := { N := ["machine", "letters", "seen", "found", "at", "room", "word", "sign", "goal"], nm := nms, us := [], gs := [], bs := ["len", "zip"], F := f_first_words, k := 0 }
def x_first_words : List (Nat × Str) := []
theorem sc_first_words : FnScope (s_first_words).N ["machine"] (defScope (tops 9)) := ⟨rfl, rfl, rfl, by decide +kernel, rfl, by decide +kernel, by decide +kernel⟩
theorem ck_first_words : okSts s_first_words x_first_words (defScope (tops 9)) i_first_words (defBody (tops 9)) = true := by decide +kernel
def s_least : Stat := { N := ["machine", "rooms", "places", "room", "ways", "marks", "lots", "told", "goal"], nm := nms, us := [43, 46, 37], gs := [], bs := ["len"], F := f_least, k := 2 }
def x_least : List (Nat × Str) := []
theorem sc_least : FnScope (s_least).N ["machine"] (defScope (tops 16)) := ⟨rfl, rfl, rfl, by decide +kernel, rfl, by decide +kernel, by decide +kernel⟩
theorem ck_least : okSts s_least x_least (defScope (tops 16)) i_least (defBody (tops 16)) = true := by decide +kernel
def s_roads : Stat := { N := ["machine", "start", "words", "row", "at", "sign", "goal"], nm := nms, us := [], gs := [], bs := ["len", "zip"], F := f_roads, k := 0 }
def x_roads : List (Nat × Str) := []
theorem sc_roads : FnScope (s_roads).N ["machine", "start"] (defScope (tops 18)) := ⟨rfl, rfl, rfl, by decide +kernel, rfl, by decide +kernel, by decide +kernel⟩
theorem ck_roads : okSts s_roads x_roads (defScope (tops 18)) i_roads (defBody (tops 18)) = true := by decide +kernel
def s_first_parted : Stat := { N := ["machine", "one", "second", "two", "letters", "seen", "row", "at", "k", "left", "right", "word", "pair"], nm := nms, us := [], gs := [], bs := ["len", "range"], F := f_first_parted, k := 0 }
def x_first_parted : List (Nat × Str) := []
theorem sc_first_parted : FnScope (s_first_parted).N ["machine", "one", "second", "two"] (defScope (tops 10)) := ⟨rfl, rfl, rfl, by decide +kernel, rfl, by decide +kernel, by decide +kernel⟩
theorem ck_first_parted : okSts s_first_parted x_first_parted (defScope (tops 10)) i_first_parted (defBody (tops 10)) = true := by decide +kernel
def s_parting : Stat := { N := ["machine", "one", "two", "rooms"], nm := nms, us := [52], gs := [], bs := ["len"], F := f_parting, k := 1 }
def x_parting : List (Nat × Str) := [(21, "NoRoom")]
theorem sc_parting : FnScope (s_parting).N ["machine", "one", "two"] (defScope (tops 11)) := ⟨rfl, rfl, rfl, by decide +kernel, rfl, by decide +kernel, by decide +kernel⟩
theorem ck_parting : okSts s_parting x_parting (defScope (tops 11)) i_parting (defBody (tops 11)) = true := by decide +kernel
def s_takes_word : Stat := { N := ["machine", "word", "room", "sign"], nm := nms, us := [], gs := [], bs := [], F := f_takes_word, k := 0 }
def x_takes_word : List (Nat × Str) := []
theorem sc_takes_word : FnScope (s_takes_word).N ["machine", "word"] (defScope (tops 24)) := ⟨rfl, rfl, rfl, by decide +kernel, rfl, by decide +kernel, by decide +kernel⟩
theorem ck_takes_word : okSts s_takes_word x_takes_word (defScope (tops 24)) i_takes_word (defBody (tops 24)) = true := by decide +kernel
def s_in_first : Stat := { N := ["machine", "one", "two"], nm := nms, us := [345], gs := [], bs := [], F := f_in_first, k := 1 }
def x_in_first : List (Nat × Str) := []
theorem sc_in_first : FnScope (s_in_first).N ["machine", "one", "two"] (defScope (tops 23)) := ⟨rfl, rfl, rfl, by decide +kernel, rfl, by decide +kernel, by decide +kernel⟩
theorem ck_in_first : okSts s_in_first x_in_first (defScope (tops 23)) i_in_first (defBody (tops 23)) = true := by decide +kernel
def s_swapped : Stat := { N := ["machine", "words", "letters", "room", "i", "j", "one", "two", "tail", "head", "here"], nm := nms, us := [316, 53, 346], gs := [], bs := ["range", "len"], F := f_swapped, k := 2 }
def x_swapped : List (Nat × Str) := []
theorem sc_swapped : FnScope (s_swapped).N ["machine"] (defScope (tops 35)) := ⟨rfl, rfl, rfl, by decide +kernel, rfl, by decide +kernel, by decide +kernel⟩
theorem ck_swapped : okSts s_swapped x_swapped (defScope (tops 35)) i_swapped (defBody (tops 35)) = true := by decide +kernel
def s_Tally_bar : Stat := { N := ["self", "machine", "pair"], nm := nms, us := [347], gs := [], bs := [], F := f_Tally_bar, k := 3 }
def x_Tally_bar : List (Nat × Str) := []
theorem sc_Tally_bar : FnScope (s_Tally_bar).N ["self", "machine"] (defScope (inner 0 (tops 62))) := ⟨rfl, rfl, rfl, by decide +kernel, rfl, by decide +kernel, by decide +kernel⟩
theorem ck_Tally_bar : okSts s_Tally_bar x_Tally_bar (defScope (inner 0 (tops 62))) i_Tally_bar (defBody (inner 0 (tops 62))) = true := by decide +kernel
def s_row_of : Stat := { N := ["machine", "k", "seen", "room"], nm := nms, us := [], gs := [], bs := ["len"], F := f_row_of, k := 0 }
def x_row_of : List (Nat × Str) := []
theorem sc_row_of : FnScope (s_row_of).N ["machine", "k"] (defScope (tops 64)) := ⟨rfl, rfl, rfl, by decide +kernel, rfl, by decide +kernel, by decide +kernel⟩
theorem ck_row_of : okSts s_row_of x_row_of (defScope (tops 64)) i_row_of (defBody (tops 64)) = true := by decide +kernel
def s_word_by : Stat := { N := ["letters", "some", "sign", "many"], nm := nms, us := [], gs := [], bs := ["zip"], F := f_word_by, k := 0 }
def x_word_by : List (Nat × Str) := []
theorem sc_word_by : FnScope (s_word_by).N ["letters", "some"] (defScope (tops 66)) := ⟨rfl, rfl, rfl, by decide +kernel, rfl, by decide +kernel, by decide +kernel⟩
theorem ck_word_by : okSts s_word_by x_word_by (defScope (tops 66)) i_word_by (defBody (tops 66)) = true := by decide +kernel
def s_table_of : Stat := { N := ["machine", "rows", "tuples", "low", "rest", "longer", "some", "many"], nm := nms, us := [345, 350], gs := [], bs := ["range"], F := f_table_of, k := 1, xts := [.ctu] }
def x_table_of : List (Nat × Str) := []
theorem sc_table_of : FnScope (s_table_of).N ["machine", "rows"] (defScope (tops 65)) := ⟨rfl, rfl, rfl, by decide +kernel, rfl, by decide +kernel, by decide +kernel⟩
theorem ck_table_of : okSts s_table_of x_table_of (defScope (tops 65)) i_table_of (defBody (tops 65)) = true := by decide +kernel
def s_Tally_paper : Stat := { N := ["self", "machine", "rows", "k"], nm := nms, us := [349, 351], gs := [], bs := ["range", "len"], F := f_Tally_paper, k := 2 }
def x_Tally_paper : List (Nat × Str) := []
theorem sc_Tally_paper : FnScope (s_Tally_paper).N ["self", "machine"] (defScope (inner 1 (tops 62))) := ⟨rfl, rfl, rfl, by decide +kernel, rfl, by decide +kernel, by decide +kernel⟩
theorem ck_Tally_paper : okSts s_Tally_paper x_Tally_paper (defScope (inner 1 (tops 62))) i_Tally_paper (defBody (inner 1 (tops 62))) = true := by decide +kernel
def s_Kind_tell_3 : Stat := { N := ["self", "machine", "small", "bar"], nm := nms, us := [47], gs := [], bs := [], F := f_Kind_tell_3, k := 4, xts := [.mth "bar" [(307, 348)], .mth "paper" [(307, 352)]] }
def x_Kind_tell_3 : List (Nat × Str) := []
theorem sc_Kind_tell_3 : FnScope (s_Kind_tell_3).N ["self", "machine"] (defScope (inner 0 (tops 30))) := ⟨rfl, rfl, rfl, by decide +kernel, rfl, by decide +kernel, by decide +kernel⟩
theorem ck_Kind_tell_3 : okSts s_Kind_tell_3 x_Kind_tell_3 (defScope (inner 0 (tops 30))) i_Kind_tell_3 (defBody (inner 0 (tops 30))) = true := by decide +kernel
def s_tell_3 : Stat := { N := ["kind", "machine"], nm := nms, us := [344], gs := [], bs := [], F := f_tell_3, k := 5, xts := [.mth "tell" [(307, 353)]] }
def x_tell_3 : List (Nat × Str) := []
theorem sc_tell_3 : FnScope (s_tell_3).N ["kind", "machine"] (defScope (tops 70)) := ⟨rfl, rfl, rfl, by decide +kernel, rfl, by decide +kernel, by decide +kernel⟩
theorem ck_tell_3 : okSts s_tell_3 x_tell_3 (defScope (tops 70)) i_tell_3 (defBody (tops 70)) = true := by decide +kernel
def s_law_after : Stat := { N := ["_law_machine_here", "_law_room", "_law_word_here", "_law_sign"], nm := nms, us := [], gs := [], bs := [], F := f_law_after, k := 0 }
def x_law_after : List (Nat × Str) := []
theorem sc_law_after : FnScope (s_law_after).N ["_law_machine_here", "_law_room", "_law_word_here"] (defScope (tops 82)) := ⟨rfl, rfl, rfl, by decide +kernel, rfl, by decide +kernel, by decide +kernel⟩
theorem ck_law_after : okSts s_law_after x_law_after (defScope (tops 82)) i_law_after (defBody (tops 82)) = true := by decide +kernel
def s_law_takes : Stat := { N := ["_law_machine_here", "_law_word_here"], nm := nms, us := [27], gs := [], bs := [], F := f_law_takes, k := 1 }
def x_law_takes : List (Nat × Str) := []
theorem sc_law_takes : FnScope (s_law_takes).N ["_law_machine_here", "_law_word_here"] (defScope (tops 84)) := ⟨rfl, rfl, rfl, by decide +kernel, rfl, by decide +kernel, by decide +kernel⟩
theorem ck_law_takes : okSts s_law_takes x_law_takes (defScope (tops 84)) i_law_takes (defBody (tops 84)) = true := by decide +kernel
def s_law_table_2 : Stat := { N := ["_law_machine_here", "_law_rows", "_law_tuples", "_law_found", "_law_some", "_law_low", "_law_rest", "_law_longer", "_law_word_here", "_law_many", "_law_sign"], nm := nms, us := [117], gs := [], bs := ["zip", "range"], F := f_law_table_2, k := 2, xts := [.cat, .ctu] }
def x_law_table_2 : List (Nat × Str) := []
theorem sc_law_table_2 : FnScope (s_law_table_2).N ["_law_machine_here", "_law_rows"] (defScope (tops 90)) := ⟨rfl, rfl, rfl, by decide +kernel, rfl, by decide +kernel, by decide +kernel⟩
theorem ck_law_table_2 : okSts s_law_table_2 x_law_table_2 (defScope (tops 90)) i_law_table_2 (defBody (tops 90)) = true := by decide +kernel
def s_law_told_by_2 : Stat := { N := ["_law_rows", "_law_letters_here", "_law_word_here", "_law_told", "_law_sign", "_law_row", "_law_many"], nm := nms, us := [], gs := [], bs := ["zip", "tuple"], F := f_law_told_by_2, k := 0, xts := [.cot] }
def x_law_told_by_2 : List (Nat × Str) := []
theorem sc_law_told_by_2 : FnScope (s_law_told_by_2).N ["_law_rows", "_law_letters_here", "_law_word_here"] (defScope (tops 91)) := ⟨rfl, rfl, rfl, by decide +kernel, rfl, by decide +kernel, by decide +kernel⟩
theorem ck_law_told_by_2 : okSts s_law_told_by_2 x_law_told_by_2 (defScope (tops 91)) i_law_told_by_2 (defBody (tops 91)) = true := by decide +kernel
def s_law_beginnings_2 : Stat := { N := ["_law_machine_here", "_law_rows", "_law_numbers", "_law_word_here", "_law_room", "_law_size"], nm := nms, us := [27, 371], gs := [], bs := ["range", "len"], F := f_law_beginnings_2, k := 1 }
def x_law_beginnings_2 : List (Nat × Str) := []
theorem sc_law_beginnings_2 : FnScope (s_law_beginnings_2).N ["_law_machine_here", "_law_rows", "_law_numbers", "_law_word_here"] (defScope (tops 92)) := ⟨rfl, rfl, rfl, by decide +kernel, rfl, by decide +kernel, by decide +kernel⟩
theorem ck_law_beginnings_2 : okSts s_law_beginnings_2 x_law_beginnings_2 (defScope (tops 92)) i_law_beginnings_2 (defBody (tops 92)) = true := by decide +kernel
def s_law_alike_rooms : Stat := { N := ["_law_machine_here", "_law_lots_here", "_law_k", "_law_keys", "_law_mark", "_law_j", "_law_key", "_law_goal"], nm := nms, us := [], gs := [], bs := ["range", "int", "len"], F := f_law_alike_rooms, k := 0 }
def x_law_alike_rooms : List (Nat × Str) := []
theorem sc_law_alike_rooms : FnScope (s_law_alike_rooms).N ["_law_machine_here"] (defScope (tops 88)) := ⟨rfl, rfl, rfl, by decide +kernel, rfl, by decide +kernel, by decide +kernel⟩
theorem ck_law_alike_rooms : okSts s_law_alike_rooms x_law_alike_rooms (defScope (tops 88)) i_law_alike_rooms (defBody (tops 88)) = true := by decide +kernel
def s_law_come_to_2 : Stat := { N := ["_law_machine_here", "_law_rooms", "_law_at", "_law_goal"], nm := nms, us := [], gs := [], bs := ["len"], F := f_law_come_to_2, k := 0 }
def x_law_come_to_2 : List (Nat × Str) := []
theorem sc_law_come_to_2 : FnScope (s_law_come_to_2).N ["_law_machine_here"] (defScope (tops 87)) := ⟨rfl, rfl, rfl, by decide +kernel, rfl, by decide +kernel, by decide +kernel⟩
theorem ck_law_come_to_2 : okSts s_law_come_to_2 x_law_come_to_2 (defScope (tops 87)) i_law_come_to_2 (defBody (tops 87)) = true := by decide +kernel
def s_law_low_and_rest : Stat := { N := ["_law_machine_here", "_law_k", "_law_lots_here", "_law_goals", "_law_seen", "_law_row", "_law_goal"], nm := nms, us := [358, 359], gs := [], bs := ["len"], F := f_law_low_and_rest, k := 1 }
def x_law_low_and_rest : List (Nat × Str) := []
theorem sc_law_low_and_rest : FnScope (s_law_low_and_rest).N ["_law_machine_here", "_law_k"] (defScope (tops 89)) := ⟨rfl, rfl, rfl, by decide +kernel, rfl, by decide +kernel, by decide +kernel⟩
theorem ck_law_low_and_rest : okSts s_law_low_and_rest x_law_low_and_rest (defScope (tops 89)) i_law_low_and_rest (defBody (tops 89)) = true := by decide +kernel
def s_law_same (k : Nat) : Stat := { N := ["_law_found", "_law_due", "_law_k"], nm := nms, us := [69], gs := [], bs := ["isinstance", "bool", "int", "str", "tuple", "list", "range", "len"], F := f_law_same (r_law_same k), k := 0 + k }
def x_law_same : List (Nat × Str) := []
theorem sc_law_same : FnScope (s_law_same 0).N ["_law_found", "_law_due"] (defScope (tops 85)) := ⟨rfl, rfl, rfl, by decide +kernel, rfl, by decide +kernel, by decide +kernel⟩
theorem ck_law_same (k : Nat) : okSts (s_law_same k) x_law_same (defScope (tops 85)) i_law_same (defBody (tops 85)) = true := by kernel_rfl
def s_law_word : Stat := { N := ["_law_letters_here", "_law_cells", "_law_cell"], nm := nms, us := [], gs := [], bs := ["len"], F := f_law_word, k := 0 }
def x_law_word : List (Nat × Str) := []
theorem sc_law_word : FnScope (s_law_word).N ["_law_letters_here", "_law_cells"] (defScope (tops 74)) := ⟨rfl, rfl, rfl, by decide +kernel, rfl, by decide +kernel, by decide +kernel⟩
theorem ck_law_word : okSts s_law_word x_law_word (defScope (tops 74)) i_law_word (defBody (tops 74)) = true := by decide +kernel
def s_law_is_word : Stat := { N := ["_law_found", "_law_letters_here", "_law_sign"], nm := nms, us := [], gs := [], bs := ["isinstance", "str", "len"], F := f_law_is_word, k := 0 }
def x_law_is_word : List (Nat × Str) := []
theorem sc_law_is_word : FnScope (s_law_is_word).N ["_law_found", "_law_letters_here"] (defScope (tops 83)) := ⟨rfl, rfl, rfl, by decide +kernel, rfl, by decide +kernel, by decide +kernel⟩
theorem ck_law_is_word : okSts s_law_is_word x_law_is_word (defScope (tops 83)) i_law_is_word (defBody (tops 83)) = true := by decide +kernel
def s_law_bar_words : Stat := { N := ["_law_words", "_law_letters_here", "_law_word_here"], nm := nms, us := [15], gs := [], bs := ["len"], F := f_law_bar_words, k := 1 }
def x_law_bar_words : List (Nat × Str) := []
theorem sc_law_bar_words : FnScope (s_law_bar_words).N ["_law_words", "_law_letters_here"] (defScope (tops 86)) := ⟨rfl, rfl, rfl, by decide +kernel, rfl, by decide +kernel, by decide +kernel⟩
theorem ck_law_bar_words : okSts s_law_bar_words x_law_bar_words (defScope (tops 86)) i_law_bar_words (defBody (tops 86)) = true := by decide +kernel
def s_law_swap_2 : Stat := { N := ["_law_machine_here", "_law_bar", "_law_sign"], nm := nms, us := [325, 117], gs := [], bs := ["len", "isinstance", "str"], F := f_law_swap_2, k := 2, xts := [.cot] }
def x_law_swap_2 : List (Nat × Str) := []
theorem sc_law_swap_2 : FnScope (s_law_swap_2).N ["_law_machine_here", "_law_bar"] (defScope (tops 93)) := ⟨rfl, rfl, rfl, by decide +kernel, rfl, by decide +kernel, by decide +kernel⟩
theorem ck_law_swap_2 : okSts s_law_swap_2 x_law_swap_2 (defScope (tops 93)) i_law_swap_2 (defBody (tops 93)) = true := by decide +kernel
def s_law_top_51 : Stat := { N := ["_law_script", "_law_letters_here", "_law_machine_here", "_law_found", "_law_rows", "_law_numbers", "_law_k"], nm := nms, us := [22, 314, 354, 355, 372, 6, 360, 69, 13, 373], gs := [], bs := ["isinstance", "tuple", "len", "bool", "range"], F := f_law_top_51, k := 8 }
def x_law_top_51 : List (Nat × Str) := []
theorem sc_law_top_51 : FnScope (s_law_top_51).N ["_law_script"] (defScope (tops 94)) := ⟨rfl, rfl, rfl, by decide +kernel, rfl, by decide +kernel, by decide +kernel⟩
theorem ck_law_top_51 : okSts s_law_top_51 x_law_top_51 (defScope (tops 94)) i_law_top_51 (defBody (tops 94)) = true := by decide +kernel
def clN : Nat → Nat → Str := fun _ _ => ""
theorem all_mk {P : Program} {w : World} {K : PySem.W.Frag} {h : Heap} {mg : Str → Option Value} {fa : Addr} (X : K.In h) (G : h.Ns mainGlobals mg) (hfa : mg "law" = some (.ref fa))
    {f348 : Addr}
    {f352 : Addr}
    {f353 : Addr}
    {C307 : Addr}
    {f22 : Addr} {od22 an22 : Option Addr} {sl22 : Array (Option Value)} {oc22 kV22 dc22 pm22 cd22 ct22 : Value}
    {f6 : Addr} {od6 an6 : Option Addr} {sl6 : Array (Option Value)} {oc6 kV6 dc6 pm6 cd6 ct6 : Value}
    {f309 : Addr} {od309 an309 : Option Addr} {sl309 : Array (Option Value)} {oc309 kV309 dc309 pm309 cd309 ct309 : Value}
    {f310 : Addr} {od310 an310 : Option Addr} {sl310 : Array (Option Value)} {oc310 kV310 dc310 pm310 cd310 ct310 : Value}
    {f23 : Addr} {od23 an23 : Option Addr} {sl23 : Array (Option Value)} {oc23 kV23 dc23 pm23 cd23 ct23 : Value}
    {f311 : Addr} {od311 an311 : Option Addr} {sl311 : Array (Option Value)} {oc311 kV311 dc311 pm311 cd311 ct311 : Value}
    {f312 : Addr} {od312 an312 : Option Addr} {sl312 : Array (Option Value)} {oc312 kV312 dc312 pm312 cd312 ct312 : Value}
    {f313 : Addr} {od313 an313 : Option Addr} {sl313 : Array (Option Value)} {oc313 kV313 dc313 pm313 cd313 ct313 : Value}
    {f314 : Addr} {od314 an314 : Option Addr} {sl314 : Array (Option Value)} {oc314 kV314 dc314 pm314 cd314 ct314 : Value}
    {f344 : Addr} {od344 an344 : Option Addr} {sl344 : Array (Option Value)} {oc344 kV344 dc344 pm344 cd344 ct344 : Value}
    {f43 : Addr} {od43 an43 : Option Addr} {sl43 : Array (Option Value)} {oc43 kV43 dc43 pm43 cd43 ct43 : Value}
    {f44 : Addr} {od44 an44 : Option Addr} {sl44 : Array (Option Value)} {oc44 kV44 dc44 pm44 cd44 ct44 : Value}
    {f45 : Addr} {od45 an45 : Option Addr} {sl45 : Array (Option Value)} {oc45 kV45 dc45 pm45 cd45 ct45 : Value}
    {f46 : Addr} {od46 an46 : Option Addr} {sl46 : Array (Option Value)} {oc46 kV46 dc46 pm46 cd46 ct46 : Value}
    {f37 : Addr} {od37 an37 : Option Addr} {sl37 : Array (Option Value)} {oc37 kV37 dc37 pm37 cd37 ct37 : Value}
    {f47 : Addr} {od47 an47 : Option Addr} {sl47 : Array (Option Value)} {oc47 kV47 dc47 pm47 cd47 ct47 : Value}
    {f316 : Addr} {od316 an316 : Option Addr} {sl316 : Array (Option Value)} {oc316 kV316 dc316 pm316 cd316 ct316 : Value}
    {f52 : Addr} {od52 an52 : Option Addr} {sl52 : Array (Option Value)} {oc52 kV52 dc52 pm52 cd52 ct52 : Value}
    {f53 : Addr} {od53 an53 : Option Addr} {sl53 : Array (Option Value)} {oc53 kV53 dc53 pm53 cd53 ct53 : Value}
    {f345 : Addr} {od345 an345 : Option Addr} {sl345 : Array (Option Value)} {oc345 kV345 dc345 pm345 cd345 ct345 : Value}
    {f346 : Addr} {od346 an346 : Option Addr} {sl346 : Array (Option Value)} {oc346 kV346 dc346 pm346 cd346 ct346 : Value}
    {f347 : Addr} {od347 an347 : Option Addr} {sl347 : Array (Option Value)} {oc347 kV347 dc347 pm347 cd347 ct347 : Value}
    {od348 an348 : Option Addr} {sl348 : Array (Option Value)} {oc348 kV348 dc348 pm348 cd348 ct348 : Value}
    {f349 : Addr} {od349 an349 : Option Addr} {sl349 : Array (Option Value)} {oc349 kV349 dc349 pm349 cd349 ct349 : Value}
    {f350 : Addr} {od350 an350 : Option Addr} {sl350 : Array (Option Value)} {oc350 kV350 dc350 pm350 cd350 ct350 : Value}
    {f351 : Addr} {od351 an351 : Option Addr} {sl351 : Array (Option Value)} {oc351 kV351 dc351 pm351 cd351 ct351 : Value}
    {od352 an352 : Option Addr} {sl352 : Array (Option Value)} {oc352 kV352 dc352 pm352 cd352 ct352 : Value}
    {od353 an353 : Option Addr} {sl353 : Array (Option Value)} {oc353 kV353 dc353 pm353 cd353 ct353 : Value}
    {f354 : Addr} {od354 an354 : Option Addr} {sl354 : Array (Option Value)} {oc354 kV354 dc354 pm354 cd354 ct354 : Value}
    {f27 : Addr} {od27 an27 : Option Addr} {sl27 : Array (Option Value)} {oc27 kV27 dc27 pm27 cd27 ct27 : Value}
    {f117 : Addr} {od117 an117 : Option Addr} {sl117 : Array (Option Value)} {oc117 kV117 dc117 pm117 cd117 ct117 : Value}
    {f355 : Addr} {od355 an355 : Option Addr} {sl355 : Array (Option Value)} {oc355 kV355 dc355 pm355 cd355 ct355 : Value}
    {f371 : Addr} {od371 an371 : Option Addr} {sl371 : Array (Option Value)} {oc371 kV371 dc371 pm371 cd371 ct371 : Value}
    {f372 : Addr} {od372 an372 : Option Addr} {sl372 : Array (Option Value)} {oc372 kV372 dc372 pm372 cd372 ct372 : Value}
    {f358 : Addr} {od358 an358 : Option Addr} {sl358 : Array (Option Value)} {oc358 kV358 dc358 pm358 cd358 ct358 : Value}
    {f359 : Addr} {od359 an359 : Option Addr} {sl359 : Array (Option Value)} {oc359 kV359 dc359 pm359 cd359 ct359 : Value}
    {f360 : Addr} {od360 an360 : Option Addr} {sl360 : Array (Option Value)} {oc360 kV360 dc360 pm360 cd360 ct360 : Value}
    {f69 : Addr} {od69 an69 : Option Addr} {sl69 : Array (Option Value)} {oc69 kV69 dc69 pm69 cd69 ct69 : Value}
    {f13 : Addr} {od13 an13 : Option Addr} {sl13 : Array (Option Value)} {oc13 kV13 dc13 pm13 cd13 ct13 : Value}
    {f15 : Addr} {od15 an15 : Option Addr} {sl15 : Array (Option Value)} {oc15 kV15 dc15 pm15 cd15 ct15 : Value}
    {f325 : Addr} {od325 an325 : Option Addr} {sl325 : Array (Option Value)} {oc325 kV325 dc325 pm325 cd325 ct325 : Value}
    {f373 : Addr} {od373 an373 : Option Addr} {sl373 : Array (Option Value)} {oc373 kV373 dc373 pm373 cd373 ct373 : Value}
    {f375 : Addr} {od375 an375 : Option Addr} {sl375 : Array (Option Value)} {oc375 kV375 dc375 pm375 cd375 ct375 : Value}
    {C21 : Addr}
    {q : Program} (TI : TabIn q K mg h)
    (aC307 : PySem.W.nsIn K mainGlobals "Tally" = some (some (.ref C307)))
    (y3071 : PySem.W.makesIn K C307 = true)
    (y3072 : PySem.W.findIn K (.ref C307) "__init__" = some (some (.builtin "object.__init__")))
    (y3073 : PySem.W.keepIn K (.ref C307) = true)
    (y3074 : PySem.W.plainGet K C307 Str.empty = true)
    (y3075 : PySem.W.hasDictIn K C307 = true)
    (y3076 : PySem.W.plainOver K C307 = true)
    (y3077 : PySem.W.findIn K (.ref C307) "__setattr__" = some (some (.builtin "object.__setattr__")))
    (y307_bar : PySem.W.findIn K (.ref C307) "bar" = some (some (.ref f348)))
    (y307_paper : PySem.W.findIn K (.ref C307) "paper" = some (some (.ref f352)))
    (y307_tell : PySem.W.findIn K (.ref C307) "tell" = some (some (.ref f353)))
    (a22 : PySem.W.nsIn K mainGlobals "_law_letters" = some (some (.ref f22)))
    (l22 : K.lookup f22 = some ⟨oc22, od22, .func (PySem.W.fnOf "_law_letters" "_law_letters" (defArgs (tops 73)) (defBody (tops 73)) (defScope (tops 73)) .none kV22 dc22 pm22 an22 cd22 ct22), sl22⟩)
    (c22 : PySem.W.codeIn K cd22 "_law_letters" = true)
    (k22 : PySem.W.keepIn K (.ref f22) = true)
    (a6 : PySem.W.nsIn K mainGlobals "_law_cell_at" = some (some (.ref f6)))
    (l6 : K.lookup f6 = some ⟨oc6, od6, .func (PySem.W.fnOf "_law_cell_at" "_law_cell_at" (defArgs (tops 72)) (defBody (tops 72)) (defScope (tops 72)) .none kV6 dc6 pm6 an6 cd6 ct6), sl6⟩)
    (c6 : PySem.W.codeIn K cd6 "_law_cell_at" = true)
    (k6 : PySem.W.keepIn K (.ref f6) = true)
    (a309 : PySem.W.nsIn K mainGlobals "_law_marks" = some (some (.ref f309)))
    (l309 : K.lookup f309 = some ⟨oc309, od309, .func (PySem.W.fnOf "_law_marks" "_law_marks" (defArgs (tops 76)) (defBody (tops 76)) (defScope (tops 76)) .none kV309 dc309 pm309 an309 cd309 ct309), sl309⟩)
    (c309 : PySem.W.codeIn K cd309 "_law_marks" = true)
    (k309 : PySem.W.keepIn K (.ref f309) = true)
    (a310 : PySem.W.nsIn K mainGlobals "_law_tallied" = some (some (.ref f310)))
    (l310 : K.lookup f310 = some ⟨oc310, od310, .func (PySem.W.fnOf "_law_tallied" "_law_tallied" (defArgs (tops 80)) (defBody (tops 80)) (defScope (tops 80)) .none kV310 dc310 pm310 an310 cd310 ct310), sl310⟩)
    (c310 : PySem.W.codeIn K cd310 "_law_tallied" = true)
    (k310 : PySem.W.keepIn K (.ref f310) = true)
    (a23 : PySem.W.nsIn K mainGlobals "_law_machine" = some (some (.ref f23)))
    (l23 : K.lookup f23 = some ⟨oc23, od23, .func (PySem.W.fnOf "_law_machine" "_law_machine" (defArgs (tops 75)) (defBody (tops 75)) (defScope (tops 75)) .none kV23 dc23 pm23 an23 cd23 ct23), sl23⟩)
    (c23 : PySem.W.codeIn K cd23 "_law_machine" = true)
    (k23 : PySem.W.keepIn K (.ref f23) = true)
    (a311 : PySem.W.nsIn K mainGlobals "_law_forward" = some (some (.ref f311)))
    (l311 : K.lookup f311 = some ⟨oc311, od311, .func (PySem.W.fnOf "_law_forward" "_law_forward" (defArgs (tops 77)) (defBody (tops 77)) (defScope (tops 77)) .none kV311 dc311 pm311 an311 cd311 ct311), sl311⟩)
    (c311 : PySem.W.codeIn K cd311 "_law_forward" = true)
    (k311 : PySem.W.keepIn K (.ref f311) = true)
    (a312 : PySem.W.nsIn K mainGlobals "_law_memory" = some (some (.ref f312)))
    (l312 : K.lookup f312 = some ⟨oc312, od312, .func (PySem.W.fnOf "_law_memory" "_law_memory" (defArgs (tops 78)) (defBody (tops 78)) (defScope (tops 78)) .none kV312 dc312 pm312 an312 cd312 ct312), sl312⟩)
    (c312 : PySem.W.codeIn K cd312 "_law_memory" = true)
    (k312 : PySem.W.keepIn K (.ref f312) = true)
    (a313 : PySem.W.nsIn K mainGlobals "_law_lots" = some (some (.ref f313)))
    (l313 : K.lookup f313 = some ⟨oc313, od313, .func (PySem.W.fnOf "_law_lots" "_law_lots" (defArgs (tops 79)) (defBody (tops 79)) (defScope (tops 79)) .none kV313 dc313 pm313 an313 cd313 ct313), sl313⟩)
    (c313 : PySem.W.codeIn K cd313 "_law_lots" = true)
    (k313 : PySem.W.keepIn K (.ref f313) = true)
    (a314 : PySem.W.nsIn K mainGlobals "_law_built" = some (some (.ref f314)))
    (l314 : K.lookup f314 = some ⟨oc314, od314, .func (PySem.W.fnOf "_law_built" "_law_built" (defArgs (tops 81)) (defBody (tops 81)) (defScope (tops 81)) .none kV314 dc314 pm314 an314 cd314 ct314), sl314⟩)
    (c314 : PySem.W.codeIn K cd314 "_law_built" = true)
    (k314 : PySem.W.keepIn K (.ref f314) = true)
    (a344 : PySem.W.nsIn K mainGlobals "kind_of" = some (some (.ref f344)))
    (l344 : K.lookup f344 = some ⟨oc344, od344, .func (PySem.W.fnOf "kind_of" "kind_of" (defArgs (tops 69)) (defBody (tops 69)) (defScope (tops 69)) .none kV344 dc344 pm344 an344 cd344 ct344), sl344⟩)
    (c344 : PySem.W.codeIn K cd344 "kind_of" = true)
    (k344 : PySem.W.keepIn K (.ref f344) = true)
    (a43 : PySem.W.nsIn K mainGlobals "thinned" = some (some (.ref f43)))
    (l43 : K.lookup f43 = some ⟨oc43, od43, .func (PySem.W.fnOf "thinned" "thinned" (defArgs (tops 15)) (defBody (tops 15)) (defScope (tops 15)) .none kV43 dc43 pm43 an43 cd43 ct43), sl43⟩)
    (c43 : PySem.W.codeIn K cd43 "thinned" = true)
    (k43 : PySem.W.keepIn K (.ref f43) = true)
    (a44 : PySem.W.nsIn K mainGlobals "numbered" = some (some (.ref f44)))
    (l44 : K.lookup f44 = some ⟨oc44, od44, .func (PySem.W.fnOf "numbered" "numbered" (defArgs (tops 12)) (defBody (tops 12)) (defScope (tops 12)) .none kV44 dc44 pm44 an44 cd44 ct44), sl44⟩)
    (c44 : PySem.W.codeIn K cd44 "numbered" = true)
    (k44 : PySem.W.keepIn K (.ref f44) = true)
    (a45 : PySem.W.nsIn K mainGlobals "key_of" = some (some (.ref f45)))
    (l45 : K.lookup f45 = some ⟨oc45, od45, .func (PySem.W.fnOf "key_of" "key_of" (defArgs (tops 13)) (defBody (tops 13)) (defScope (tops 13)) .none kV45 dc45 pm45 an45 cd45 ct45), sl45⟩)
    (c45 : PySem.W.codeIn K cd45 "key_of" = true)
    (k45 : PySem.W.keepIn K (.ref f45) = true)
    (a46 : PySem.W.nsIn K mainGlobals "rounds" = some (some (.ref f46)))
    (l46 : K.lookup f46 = some ⟨oc46, od46, .func (PySem.W.fnOf "rounds" "rounds" (defArgs (tops 14)) (defBody (tops 14)) (defScope (tops 14)) .none kV46 dc46 pm46 an46 cd46 ct46), sl46⟩)
    (c46 : PySem.W.codeIn K cd46 "rounds" = true)
    (k46 : PySem.W.keepIn K (.ref f46) = true)
    (a37 : PySem.W.nsIn K mainGlobals "first_words" = some (some (.ref f37)))
    (l37 : K.lookup f37 = some ⟨oc37, od37, .func (PySem.W.fnOf "first_words" "first_words" (defArgs (tops 9)) (defBody (tops 9)) (defScope (tops 9)) .none kV37 dc37 pm37 an37 cd37 ct37), sl37⟩)
    (c37 : PySem.W.codeIn K cd37 "first_words" = true)
    (k37 : PySem.W.keepIn K (.ref f37) = true)
    (a47 : PySem.W.nsIn K mainGlobals "least" = some (some (.ref f47)))
    (l47 : K.lookup f47 = some ⟨oc47, od47, .func (PySem.W.fnOf "least" "least" (defArgs (tops 16)) (defBody (tops 16)) (defScope (tops 16)) .none kV47 dc47 pm47 an47 cd47 ct47), sl47⟩)
    (c47 : PySem.W.codeIn K cd47 "least" = true)
    (k47 : PySem.W.keepIn K (.ref f47) = true)
    (a316 : PySem.W.nsIn K mainGlobals "roads" = some (some (.ref f316)))
    (l316 : K.lookup f316 = some ⟨oc316, od316, .func (PySem.W.fnOf "roads" "roads" (defArgs (tops 18)) (defBody (tops 18)) (defScope (tops 18)) .none kV316 dc316 pm316 an316 cd316 ct316), sl316⟩)
    (c316 : PySem.W.codeIn K cd316 "roads" = true)
    (k316 : PySem.W.keepIn K (.ref f316) = true)
    (a52 : PySem.W.nsIn K mainGlobals "first_parted" = some (some (.ref f52)))
    (l52 : K.lookup f52 = some ⟨oc52, od52, .func (PySem.W.fnOf "first_parted" "first_parted" (defArgs (tops 10)) (defBody (tops 10)) (defScope (tops 10)) .none kV52 dc52 pm52 an52 cd52 ct52), sl52⟩)
    (c52 : PySem.W.codeIn K cd52 "first_parted" = true)
    (k52 : PySem.W.keepIn K (.ref f52) = true)
    (a53 : PySem.W.nsIn K mainGlobals "parting" = some (some (.ref f53)))
    (l53 : K.lookup f53 = some ⟨oc53, od53, .func (PySem.W.fnOf "parting" "parting" (defArgs (tops 11)) (defBody (tops 11)) (defScope (tops 11)) .none kV53 dc53 pm53 an53 cd53 ct53), sl53⟩)
    (c53 : PySem.W.codeIn K cd53 "parting" = true)
    (k53 : PySem.W.keepIn K (.ref f53) = true)
    (a345 : PySem.W.nsIn K mainGlobals "takes_word" = some (some (.ref f345)))
    (l345 : K.lookup f345 = some ⟨oc345, od345, .func (PySem.W.fnOf "takes_word" "takes_word" (defArgs (tops 24)) (defBody (tops 24)) (defScope (tops 24)) .none kV345 dc345 pm345 an345 cd345 ct345), sl345⟩)
    (c345 : PySem.W.codeIn K cd345 "takes_word" = true)
    (k345 : PySem.W.keepIn K (.ref f345) = true)
    (a346 : PySem.W.nsIn K mainGlobals "in_first" = some (some (.ref f346)))
    (l346 : K.lookup f346 = some ⟨oc346, od346, .func (PySem.W.fnOf "in_first" "in_first" (defArgs (tops 23)) (defBody (tops 23)) (defScope (tops 23)) .none kV346 dc346 pm346 an346 cd346 ct346), sl346⟩)
    (c346 : PySem.W.codeIn K cd346 "in_first" = true)
    (k346 : PySem.W.keepIn K (.ref f346) = true)
    (a347 : PySem.W.nsIn K mainGlobals "swapped" = some (some (.ref f347)))
    (l347 : K.lookup f347 = some ⟨oc347, od347, .func (PySem.W.fnOf "swapped" "swapped" (defArgs (tops 35)) (defBody (tops 35)) (defScope (tops 35)) .none kV347 dc347 pm347 an347 cd347 ct347), sl347⟩)
    (c347 : PySem.W.codeIn K cd347 "swapped" = true)
    (k347 : PySem.W.keepIn K (.ref f347) = true)
    (l348 : K.lookup f348 = some ⟨oc348, od348, .func (PySem.W.fnOf "bar" "Tally.bar" (defArgs (inner 0 (tops 62))) (defBody (inner 0 (tops 62))) (defScope (inner 0 (tops 62))) .none kV348 dc348 pm348 an348 cd348 ct348), sl348⟩)
    (c348 : PySem.W.codeIn K cd348 "Tally.bar" = true)
    (k348 : PySem.W.keepIn K (.ref f348) = true)
    (w348 : PySem.W.isFn K (.ref f348) = true)
    (a349 : PySem.W.nsIn K mainGlobals "row_of" = some (some (.ref f349)))
    (l349 : K.lookup f349 = some ⟨oc349, od349, .func (PySem.W.fnOf "row_of" "row_of" (defArgs (tops 64)) (defBody (tops 64)) (defScope (tops 64)) .none kV349 dc349 pm349 an349 cd349 ct349), sl349⟩)
    (c349 : PySem.W.codeIn K cd349 "row_of" = true)
    (k349 : PySem.W.keepIn K (.ref f349) = true)
    (a350 : PySem.W.nsIn K mainGlobals "word_by" = some (some (.ref f350)))
    (l350 : K.lookup f350 = some ⟨oc350, od350, .func (PySem.W.fnOf "word_by" "word_by" (defArgs (tops 66)) (defBody (tops 66)) (defScope (tops 66)) .none kV350 dc350 pm350 an350 cd350 ct350), sl350⟩)
    (c350 : PySem.W.codeIn K cd350 "word_by" = true)
    (k350 : PySem.W.keepIn K (.ref f350) = true)
    (a351 : PySem.W.nsIn K mainGlobals "table_of" = some (some (.ref f351)))
    (l351 : K.lookup f351 = some ⟨oc351, od351, .func (PySem.W.fnOf "table_of" "table_of" (defArgs (tops 65)) (defBody (tops 65)) (defScope (tops 65)) .none kV351 dc351 pm351 an351 cd351 ct351), sl351⟩)
    (c351 : PySem.W.codeIn K cd351 "table_of" = true)
    (k351 : PySem.W.keepIn K (.ref f351) = true)
    (l352 : K.lookup f352 = some ⟨oc352, od352, .func (PySem.W.fnOf "paper" "Tally.paper" (defArgs (inner 1 (tops 62))) (defBody (inner 1 (tops 62))) (defScope (inner 1 (tops 62))) .none kV352 dc352 pm352 an352 cd352 ct352), sl352⟩)
    (c352 : PySem.W.codeIn K cd352 "Tally.paper" = true)
    (k352 : PySem.W.keepIn K (.ref f352) = true)
    (w352 : PySem.W.isFn K (.ref f352) = true)
    (l353 : K.lookup f353 = some ⟨oc353, od353, .func (PySem.W.fnOf "tell" "Kind.tell" (defArgs (inner 0 (tops 30))) (defBody (inner 0 (tops 30))) (defScope (inner 0 (tops 30))) .none kV353 dc353 pm353 an353 cd353 ct353), sl353⟩)
    (c353 : PySem.W.codeIn K cd353 "Kind.tell" = true)
    (k353 : PySem.W.keepIn K (.ref f353) = true)
    (w353 : PySem.W.isFn K (.ref f353) = true)
    (a354 : PySem.W.nsIn K mainGlobals "tell" = some (some (.ref f354)))
    (l354 : K.lookup f354 = some ⟨oc354, od354, .func (PySem.W.fnOf "tell" "tell" (defArgs (tops 70)) (defBody (tops 70)) (defScope (tops 70)) .none kV354 dc354 pm354 an354 cd354 ct354), sl354⟩)
    (c354 : PySem.W.codeIn K cd354 "tell" = true)
    (k354 : PySem.W.keepIn K (.ref f354) = true)
    (a27 : PySem.W.nsIn K mainGlobals "_law_after" = some (some (.ref f27)))
    (l27 : K.lookup f27 = some ⟨oc27, od27, .func (PySem.W.fnOf "_law_after" "_law_after" (defArgs (tops 82)) (defBody (tops 82)) (defScope (tops 82)) .none kV27 dc27 pm27 an27 cd27 ct27), sl27⟩)
    (c27 : PySem.W.codeIn K cd27 "_law_after" = true)
    (k27 : PySem.W.keepIn K (.ref f27) = true)
    (a117 : PySem.W.nsIn K mainGlobals "_law_takes" = some (some (.ref f117)))
    (l117 : K.lookup f117 = some ⟨oc117, od117, .func (PySem.W.fnOf "_law_takes" "_law_takes" (defArgs (tops 84)) (defBody (tops 84)) (defScope (tops 84)) .none kV117 dc117 pm117 an117 cd117 ct117), sl117⟩)
    (c117 : PySem.W.codeIn K cd117 "_law_takes" = true)
    (k117 : PySem.W.keepIn K (.ref f117) = true)
    (a355 : PySem.W.nsIn K mainGlobals "_law_table" = some (some (.ref f355)))
    (l355 : K.lookup f355 = some ⟨oc355, od355, .func (PySem.W.fnOf "_law_table" "_law_table" (defArgs (tops 90)) (defBody (tops 90)) (defScope (tops 90)) .none kV355 dc355 pm355 an355 cd355 ct355), sl355⟩)
    (c355 : PySem.W.codeIn K cd355 "_law_table" = true)
    (k355 : PySem.W.keepIn K (.ref f355) = true)
    (a371 : PySem.W.nsIn K mainGlobals "_law_told_by" = some (some (.ref f371)))
    (l371 : K.lookup f371 = some ⟨oc371, od371, .func (PySem.W.fnOf "_law_told_by" "_law_told_by" (defArgs (tops 91)) (defBody (tops 91)) (defScope (tops 91)) .none kV371 dc371 pm371 an371 cd371 ct371), sl371⟩)
    (c371 : PySem.W.codeIn K cd371 "_law_told_by" = true)
    (k371 : PySem.W.keepIn K (.ref f371) = true)
    (a372 : PySem.W.nsIn K mainGlobals "_law_beginnings" = some (some (.ref f372)))
    (l372 : K.lookup f372 = some ⟨oc372, od372, .func (PySem.W.fnOf "_law_beginnings" "_law_beginnings" (defArgs (tops 92)) (defBody (tops 92)) (defScope (tops 92)) .none kV372 dc372 pm372 an372 cd372 ct372), sl372⟩)
    (c372 : PySem.W.codeIn K cd372 "_law_beginnings" = true)
    (k372 : PySem.W.keepIn K (.ref f372) = true)
    (a358 : PySem.W.nsIn K mainGlobals "_law_alike_rooms" = some (some (.ref f358)))
    (l358 : K.lookup f358 = some ⟨oc358, od358, .func (PySem.W.fnOf "_law_alike_rooms" "_law_alike_rooms" (defArgs (tops 88)) (defBody (tops 88)) (defScope (tops 88)) .none kV358 dc358 pm358 an358 cd358 ct358), sl358⟩)
    (c358 : PySem.W.codeIn K cd358 "_law_alike_rooms" = true)
    (k358 : PySem.W.keepIn K (.ref f358) = true)
    (a359 : PySem.W.nsIn K mainGlobals "_law_come_to" = some (some (.ref f359)))
    (l359 : K.lookup f359 = some ⟨oc359, od359, .func (PySem.W.fnOf "_law_come_to" "_law_come_to" (defArgs (tops 87)) (defBody (tops 87)) (defScope (tops 87)) .none kV359 dc359 pm359 an359 cd359 ct359), sl359⟩)
    (c359 : PySem.W.codeIn K cd359 "_law_come_to" = true)
    (k359 : PySem.W.keepIn K (.ref f359) = true)
    (a360 : PySem.W.nsIn K mainGlobals "_law_low_and_rest" = some (some (.ref f360)))
    (l360 : K.lookup f360 = some ⟨oc360, od360, .func (PySem.W.fnOf "_law_low_and_rest" "_law_low_and_rest" (defArgs (tops 89)) (defBody (tops 89)) (defScope (tops 89)) .none kV360 dc360 pm360 an360 cd360 ct360), sl360⟩)
    (c360 : PySem.W.codeIn K cd360 "_law_low_and_rest" = true)
    (k360 : PySem.W.keepIn K (.ref f360) = true)
    (a69 : PySem.W.nsIn K mainGlobals "_law_same" = some (some (.ref f69)))
    (l69 : K.lookup f69 = some ⟨oc69, od69, .func (PySem.W.fnOf "_law_same" "_law_same" (defArgs (tops 85)) (defBody (tops 85)) (defScope (tops 85)) .none kV69 dc69 pm69 an69 cd69 ct69), sl69⟩)
    (c69 : PySem.W.codeIn K cd69 "_law_same" = true)
    (k69 : PySem.W.keepIn K (.ref f69) = true)
    (a13 : PySem.W.nsIn K mainGlobals "_law_word" = some (some (.ref f13)))
    (l13 : K.lookup f13 = some ⟨oc13, od13, .func (PySem.W.fnOf "_law_word" "_law_word" (defArgs (tops 74)) (defBody (tops 74)) (defScope (tops 74)) .none kV13 dc13 pm13 an13 cd13 ct13), sl13⟩)
    (c13 : PySem.W.codeIn K cd13 "_law_word" = true)
    (k13 : PySem.W.keepIn K (.ref f13) = true)
    (a15 : PySem.W.nsIn K mainGlobals "_law_is_word" = some (some (.ref f15)))
    (l15 : K.lookup f15 = some ⟨oc15, od15, .func (PySem.W.fnOf "_law_is_word" "_law_is_word" (defArgs (tops 83)) (defBody (tops 83)) (defScope (tops 83)) .none kV15 dc15 pm15 an15 cd15 ct15), sl15⟩)
    (c15 : PySem.W.codeIn K cd15 "_law_is_word" = true)
    (k15 : PySem.W.keepIn K (.ref f15) = true)
    (a325 : PySem.W.nsIn K mainGlobals "_law_bar_words" = some (some (.ref f325)))
    (l325 : K.lookup f325 = some ⟨oc325, od325, .func (PySem.W.fnOf "_law_bar_words" "_law_bar_words" (defArgs (tops 86)) (defBody (tops 86)) (defScope (tops 86)) .none kV325 dc325 pm325 an325 cd325 ct325), sl325⟩)
    (c325 : PySem.W.codeIn K cd325 "_law_bar_words" = true)
    (k325 : PySem.W.keepIn K (.ref f325) = true)
    (a373 : PySem.W.nsIn K mainGlobals "_law_swap" = some (some (.ref f373)))
    (l373 : K.lookup f373 = some ⟨oc373, od373, .func (PySem.W.fnOf "_law_swap" "_law_swap" (defArgs (tops 93)) (defBody (tops 93)) (defScope (tops 93)) .none kV373 dc373 pm373 an373 cd373 ct373), sl373⟩)
    (c373 : PySem.W.codeIn K cd373 "_law_swap" = true)
    (k373 : PySem.W.keepIn K (.ref f373) = true)
    (a375 : PySem.W.nsIn K mainGlobals "law" = some (some (.ref f375)))
    (l375 : K.lookup f375 = some ⟨oc375, od375, .func (PySem.W.fnOf "law" "law" (defArgs (tops 94)) (defBody (tops 94)) (defScope (tops 94)) .none kV375 dc375 pm375 an375 cd375 ct375), sl375⟩)
    (c375 : PySem.W.codeIn K cd375 "law" = true)
    (k375 : PySem.W.keepIn K (.ref f375) = true)
    (z_range : PySem.W.nsIn K mainGlobals "range" = some none)
    (z_len : PySem.W.nsIn K mainGlobals "len" = some none)
    (z_tuple : PySem.W.nsIn K mainGlobals "tuple" = some none)
    (z_max : PySem.W.nsIn K mainGlobals "max" = some none)
    (z_zip : PySem.W.nsIn K mainGlobals "zip" = some none)
    (z_int : PySem.W.nsIn K mainGlobals "int" = some none)
    (z_isinstance : PySem.W.nsIn K mainGlobals "isinstance" = some none)
    (z_bool : PySem.W.nsIn K mainGlobals "bool" = some none)
    (z_str : PySem.W.nsIn K mainGlobals "str" = some none)
    (z_list : PySem.W.nsIn K mainGlobals "list" = some none)
    (aC21 : PySem.W.nsIn K mainGlobals "NoRoom" = some (some (.ref C21)))
    (xC21 : PySem.W.excIn K C21 [.type "ValueError", .type "Exception", .type "BaseException", .type "object"] "ValueError.__new__" = true)
    (kC21 : PySem.W.keepIn K (.ref C21) = true)
    (eC21 : PySem.W.subIn K (.ref C21) (.type "BaseException") = some true)
    (tC21 : PySem.W.typeIn K (.ref C21) = some (.type "type"))
    : LawT P w K mg fa h 9 "_law_script" := by
  have e := hfa.symm.trans (PySem.W.mg_of X G a375)
  cases e
  refine ⟨PySem.W.fnOf "law" "law" (defArgs (tops 94)) (defBody (tops 94)) (defScope (tops 94)) .none kV375 dc375 pm375 an375 cd375 ct375, [], spLawT [] K, tt_nil, tt_nil, tt_nil, fun s v => .of_eq rfl, fun H a ns hl _ hp hS => ⟨a, ns, rfl, hS, hl, hp, fun _ => rfl⟩, fun base _ _ TB => ?_⟩
  letI : Tabs := tabsAll [] clN
  let O : OpT := O1 (fun n => match n with | 21 => C21 | _ => 0) (fun _ => []) (opIns (fun n => match n with | 307 => some (C307, []) | _ => none))
  have Mk307 : MkC { toOpT := O, P := P, w := w, K := K, mg := mg, base := base } 307 "Tally" C307 := ⟨PySem.W.mg_of X G aC307, y3071, y3072, y3073, mk_new rfl⟩
  have Cl307 : Cls K C307 := ⟨y3074, y3075, y3076, y3077⟩
  have E21 : ∀ X : Cx, X.K = K → X.mg = mg → ExOk X O 21 "NoRoom" := ex_mk (PySem.W.mg_of X G aC21) xC21 kC21 eC21 tC21
  have F22 := fun_mk (st := (tops 73)) l22 c22 k22
  have N22 := fnok_of (O := O) (P := P) (w := w) (K := K) (mg := mg) (base := base) (S := s_law_letters_2) (xs := x_law_letters_2) (n := 22) (m := m_law_letters_2) (qual := "_law_letters") (ir := i_law_letters_2) F22 sc_law_letters_2 ck_law_letters_2 (bs_cons (PySem.W.mg_none_of X G z_range) (bs_cons (PySem.W.mg_none_of X G z_len) bs_nil)) us_nil gs_nil xs_nil ts_nil ys_nil tr_nil mk_run
  have b22 := F22.binds (ps := ["_law_cell"]) fun _ _ _ _ _ _ us hl => match us, hl with | [_], _ => rfl
  have K22 := fok_mk (S := s_law_letters_2) (n := 22) N22 F22.kp b22 (PySem.W.mg_of X G a22)
  have F6 := fun_mk (st := (tops 72)) l6 c6 k6
  have N6 := fnok_of (O := O) (P := P) (w := w) (K := K) (mg := mg) (base := base) (S := s_law_cell_at) (xs := x_law_cell_at) (n := 6) (m := m_law_cell_at) (qual := "_law_cell_at") (ir := i_law_cell_at) F6 sc_law_cell_at ck_law_cell_at (bs_cons (PySem.W.mg_none_of X G z_len) bs_nil) us_nil gs_nil xs_nil ts_nil ys_nil tr_nil mk_run
  have b6 := F6.binds (ps := ["_law_script", "_law_k"]) fun _ _ _ _ _ _ us hl => match us, hl with | [_, _], _ => rfl
  have K6 := fok_mk (S := s_law_cell_at) (n := 6) N6 F6.kp b6 (PySem.W.mg_of X G a6)
  have F309 := fun_mk (st := (tops 76)) l309 c309 k309
  have N309 := fnok_of (O := O) (P := P) (w := w) (K := K) (mg := mg) (base := base) (S := s_law_marks) (xs := x_law_marks) (n := 309) (m := m_law_marks) (qual := "_law_marks") (ir := i_law_marks) F309 sc_law_marks ck_law_marks (bs_cons (PySem.W.mg_none_of X G z_tuple) (bs_cons (PySem.W.mg_none_of X G z_range) bs_nil)) (us_cons (f := f_law_marks) (K6.mono (by first | decide | omega)) us_nil) gs_nil xs_nil ts_nil ys_nil tr_nil mk_run
  have b309 := F309.binds (ps := ["_law_script", "_law_rooms"]) fun _ _ _ _ _ _ us hl => match us, hl with | [_, _], _ => rfl
  have K309 := fok_mk (S := s_law_marks) (n := 309) N309 F309.kp b309 (PySem.W.mg_of X G a309)
  have F310 := fun_mk (st := (tops 80)) l310 c310 k310
  have N310 := fnok_of (O := O) (P := P) (w := w) (K := K) (mg := mg) (base := base) (S := s_law_tallied) (xs := x_law_tallied) (n := 310) (m := m_law_tallied) (qual := "_law_tallied") (ir := i_law_tallied) F310 sc_law_tallied ck_law_tallied (bs_cons (PySem.W.mg_none_of X G z_range) (bs_cons (PySem.W.mg_none_of X G z_tuple) (bs_cons (PySem.W.mg_none_of X G z_len) bs_nil))) (us_cons (f := f_law_tallied) (K6.mono (by first | decide | omega)) (us_cons (f := f_law_tallied) (K309.mono (by first | decide | omega)) us_nil)) gs_nil xs_nil (ts_cons cat_ok (ts_cons ctu_ok ts_nil)) ys_nil tr_nil mk_run
  have b310 := F310.binds (ps := ["_law_script", "_law_letters_here"]) fun _ _ _ _ _ _ us hl => match us, hl with | [_, _], _ => rfl
  have K310 := fok_mk (S := s_law_tallied) (n := 310) N310 F310.kp b310 (PySem.W.mg_of X G a310)
  have F23 := fun_mk (st := (tops 75)) l23 c23 k23
  have N23 := fnok_of (O := O) (P := P) (w := w) (K := K) (mg := mg) (base := base) (S := s_law_machine) (xs := x_law_machine) (n := 23) (m := m_law_machine) (qual := "_law_machine") (ir := i_law_machine) F23 sc_law_machine ck_law_machine (bs_cons (PySem.W.mg_none_of X G z_range) (bs_cons (PySem.W.mg_none_of X G z_tuple) bs_nil)) (us_cons (f := f_law_machine) (K6.mono (by first | decide | omega)) us_nil) gs_nil xs_nil ts_nil ys_nil tr_nil mk_run
  have b23 := F23.binds (ps := ["_law_script", "_law_at", "_law_rooms", "_law_letters_here"]) fun _ _ _ _ _ _ us hl => match us, hl with | [_, _, _, _], _ => rfl
  have K23 := fok_mk (S := s_law_machine) (n := 23) N23 F23.kp b23 (PySem.W.mg_of X G a23)
  have F311 := fun_mk (st := (tops 77)) l311 c311 k311
  have N311 := fnok_of (O := O) (P := P) (w := w) (K := K) (mg := mg) (base := base) (S := s_law_forward) (xs := x_law_forward) (n := 311) (m := m_law_forward) (qual := "_law_forward") (ir := i_law_forward) F311 sc_law_forward ck_law_forward (bs_cons (PySem.W.mg_none_of X G z_range) (bs_cons (PySem.W.mg_none_of X G z_tuple) bs_nil)) (us_cons (f := f_law_forward) (K23.mono (by first | decide | omega)) (us_cons (f := f_law_forward) (K6.mono (by first | decide | omega)) us_nil)) gs_nil xs_nil ts_nil ys_nil tr_nil mk_run
  have b311 := F311.binds (ps := ["_law_script", "_law_letters_here", "_law_strict"]) fun _ _ _ _ _ _ us hl => match us, hl with | [_, _, _], _ => rfl
  have K311 := fok_mk (S := s_law_forward) (n := 311) N311 F311.kp b311 (PySem.W.mg_of X G a311)
  have F312 := fun_mk (st := (tops 78)) l312 c312 k312
  have N312 := fnok_of (O := O) (P := P) (w := w) (K := K) (mg := mg) (base := base) (S := s_law_memory) (xs := x_law_memory) (n := 312) (m := m_law_memory) (qual := "_law_memory") (ir := i_law_memory) F312 sc_law_memory ck_law_memory (bs_cons (PySem.W.mg_none_of X G z_len) (bs_cons (PySem.W.mg_none_of X G z_tuple) bs_nil)) (us_cons (f := f_law_memory) (K309.mono (by first | decide | omega)) (us_cons (f := f_law_memory) (K6.mono (by first | decide | omega)) us_nil)) gs_nil xs_nil ts_nil ys_nil tr_nil mk_run
  have b312 := F312.binds (ps := ["_law_script", "_law_letters_here"]) fun _ _ _ _ _ _ us hl => match us, hl with | [_, _], _ => rfl
  have K312 := fok_mk (S := s_law_memory) (n := 312) N312 F312.kp b312 (PySem.W.mg_of X G a312)
  have F313 := fun_mk (st := (tops 79)) l313 c313 k313
  have N313 := fnok_of (O := O) (P := P) (w := w) (K := K) (mg := mg) (base := base) (S := s_law_lots) (xs := x_law_lots) (n := 313) (m := m_law_lots) (qual := "_law_lots") (ir := i_law_lots) F313 sc_law_lots ck_law_lots (bs_cons (PySem.W.mg_none_of X G z_range) (bs_cons (PySem.W.mg_none_of X G z_tuple) (bs_cons (PySem.W.mg_none_of X G z_len) bs_nil))) (us_cons (f := f_law_lots) (K309.mono (by first | decide | omega)) us_nil) gs_nil xs_nil ts_nil ys_nil tr_nil mk_run
  have b313 := F313.binds (ps := ["_law_script", "_law_letters_here"]) fun _ _ _ _ _ _ us hl => match us, hl with | [_, _], _ => rfl
  have K313 := fok_mk (S := s_law_lots) (n := 313) N313 F313.kp b313 (PySem.W.mg_of X G a313)
  have F314 := fun_mk (st := (tops 81)) l314 c314 k314
  have N314 := fnok_of (O := O) (P := P) (w := w) (K := K) (mg := mg) (base := base) (S := s_law_built) (xs := x_law_built) (n := 314) (m := m_law_built) (qual := "_law_built") (ir := i_law_built) F314 sc_law_built ck_law_built bs_nil (us_cons (f := f_law_built) (K310.mono (by first | decide | omega)) (us_cons (f := f_law_built) (K23.mono (by first | decide | omega)) (us_cons (f := f_law_built) (K311.mono (by first | decide | omega)) (us_cons (f := f_law_built) (K312.mono (by first | decide | omega)) (us_cons (f := f_law_built) (K313.mono (by first | decide | omega)) (us_cons (f := f_law_built) (K6.mono (by first | decide | omega)) us_nil)))))) gs_nil xs_nil ts_nil ys_nil tr_nil mk_run
  have b314 := F314.binds (ps := ["_law_script", "_law_letters_here", "_law_kind"]) fun _ _ _ _ _ _ us hl => match us, hl with | [_, _, _], _ => rfl
  have K314 := fok_mk (S := s_law_built) (n := 314) N314 F314.kp b314 (PySem.W.mg_of X G a314)
  have F344 := fun_mk (st := (tops 69)) l344 c344 k344
  have N344 := fnok_of (O := O) (P := P) (w := w) (K := K) (mg := mg) (base := base) (S := s_kind_of_3) (xs := x_kind_of_3) (n := 344) (m := m_kind_of_3) (qual := "kind_of") (ir := i_kind_of_3) F344 sc_kind_of_3 ck_kind_of_3 bs_nil us_nil gs_nil xs_nil (ts_cons (mk_ok Mk307) ts_nil) ys_nil tr_nil mk_run
  have b344 := F344.binds (ps := ["kind"]) fun _ _ _ _ _ _ us hl => match us, hl with | [_], _ => rfl
  have K344 := fok_mk (S := s_kind_of_3) (n := 344) N344 F344.kp b344 (PySem.W.mg_of X G a344)
  have F43 := fun_mk (st := (tops 15)) l43 c43 k43
  have N43 := fnok_of (O := O) (P := P) (w := w) (K := K) (mg := mg) (base := base) (S := s_thinned) (xs := x_thinned) (n := 43) (m := m_thinned) (qual := "thinned") (ir := i_thinned) F43 sc_thinned ck_thinned (bs_cons (PySem.W.mg_none_of X G z_range) (bs_cons (PySem.W.mg_none_of X G z_len) (bs_cons (PySem.W.mg_none_of X G z_tuple) bs_nil))) us_nil gs_nil xs_nil ts_nil ys_nil tr_nil mk_run
  have b43 := F43.binds (ps := ["letters", "ways", "marks", "lots"]) fun _ _ _ _ _ _ us hl => match us, hl with | [_, _, _, _], _ => rfl
  have K43 := fok_mk (S := s_thinned) (n := 43) N43 F43.kp b43 (PySem.W.mg_of X G a43)
  have F44 := fun_mk (st := (tops 12)) l44 c44 k44
  have N44 := fnok_of (O := O) (P := P) (w := w) (K := K) (mg := mg) (base := base) (S := s_numbered) (xs := x_numbered) (n := 44) (m := m_numbered) (qual := "numbered") (ir := i_numbered) F44 sc_numbered ck_numbered (bs_cons (PySem.W.mg_none_of X G z_len) bs_nil) us_nil gs_nil xs_nil ts_nil ys_nil tr_nil mk_run
  have b44 := F44.binds (ps := ["keys"]) fun _ _ _ _ _ _ us hl => match us, hl with | [_], _ => rfl
  have K44 := fok_mk (S := s_numbered) (n := 44) N44 F44.kp b44 (PySem.W.mg_of X G a44)
  have F45 := fun_mk (st := (tops 13)) l45 c45 k45
  have N45 := fnok_of (O := O) (P := P) (w := w) (K := K) (mg := mg) (base := base) (S := s_key_of) (xs := x_key_of) (n := 45) (m := m_key_of) (qual := "key_of") (ir := i_key_of) F45 sc_key_of ck_key_of (bs_cons (PySem.W.mg_none_of X G z_tuple) bs_nil) us_nil gs_nil xs_nil ts_nil ys_nil tr_nil mk_run
  have b45 := F45.binds (ps := ["lots", "room", "row"]) fun _ _ _ _ _ _ us hl => match us, hl with | [_, _, _], _ => rfl
  have K45 := fok_mk (S := s_key_of) (n := 45) N45 F45.kp b45 (PySem.W.mg_of X G a45)
  have F46 := fun_mk (st := (tops 14)) l46 c46 k46
  have N46 := fnok_of (O := O) (P := P) (w := w) (K := K) (mg := mg) (base := base) (S := s_rounds) (xs := x_rounds) (n := 46) (m := m_rounds) (qual := "rounds") (ir := i_rounds) F46 sc_rounds ck_rounds (bs_cons (PySem.W.mg_none_of X G z_max) (bs_cons (PySem.W.mg_none_of X G z_range) (bs_cons (PySem.W.mg_none_of X G z_len) bs_nil))) (us_cons (f := f_rounds) (K44.mono (by first | decide | omega)) (us_cons (f := f_rounds) (K45.mono (by first | decide | omega)) us_nil)) gs_nil xs_nil ts_nil ys_nil tr_nil mk_run
  have b46 := F46.binds (ps := ["ways", "marks", "most"]) fun _ _ _ _ _ _ us hl => match us, hl with | [_, _, _], _ => rfl
  have K46 := fok_mk (S := s_rounds) (n := 46) N46 F46.kp b46 (PySem.W.mg_of X G a46)
  have F37 := fun_mk (st := (tops 9)) l37 c37 k37
  have N37 := fnok_of (O := O) (P := P) (w := w) (K := K) (mg := mg) (base := base) (S := s_first_words) (xs := x_first_words) (n := 37) (m := m_first_words) (qual := "first_words") (ir := i_first_words) F37 sc_first_words ck_first_words (bs_cons (PySem.W.mg_none_of X G z_len) (bs_cons (PySem.W.mg_none_of X G z_zip) bs_nil)) us_nil gs_nil xs_nil ts_nil ys_nil tr_nil mk_run
  have b37 := F37.binds (ps := ["machine"]) fun _ _ _ _ _ _ us hl => match us, hl with | [_], _ => rfl
  have K37 := fok_mk (S := s_first_words) (n := 37) N37 F37.kp b37 (PySem.W.mg_of X G a37)
  have F47 := fun_mk (st := (tops 16)) l47 c47 k47
  have N47 := fnok_of (O := O) (P := P) (w := w) (K := K) (mg := mg) (base := base) (S := s_least) (xs := x_least) (n := 47) (m := m_least) (qual := "least") (ir := i_least) F47 sc_least ck_least (bs_cons (PySem.W.mg_none_of X G z_len) bs_nil) (us_cons (f := f_least) (K43.mono (by first | decide | omega)) (us_cons (f := f_least) (K46.mono (by first | decide | omega)) (us_cons (f := f_least) (K37.mono (by first | decide | omega)) us_nil))) gs_nil xs_nil ts_nil ys_nil tr_nil mk_run
  have b47 := F47.binds (ps := ["machine"]) fun _ _ _ _ _ _ us hl => match us, hl with | [_], _ => rfl
  have K47 := fok_mk (S := s_least) (n := 47) N47 F47.kp b47 (PySem.W.mg_of X G a47)
  have F316 := fun_mk (st := (tops 18)) l316 c316 k316
  have N316 := fnok_of (O := O) (P := P) (w := w) (K := K) (mg := mg) (base := base) (S := s_roads) (xs := x_roads) (n := 316) (m := m_roads) (qual := "roads") (ir := i_roads) F316 sc_roads ck_roads (bs_cons (PySem.W.mg_none_of X G z_len) (bs_cons (PySem.W.mg_none_of X G z_zip) bs_nil)) us_nil gs_nil xs_nil ts_nil ys_nil tr_nil mk_run
  have b316 := F316.binds (ps := ["machine", "start"]) fun _ _ _ _ _ _ us hl => match us, hl with | [_, _], _ => rfl
  have K316 := fok_mk (S := s_roads) (n := 316) N316 F316.kp b316 (PySem.W.mg_of X G a316)
  have F52 := fun_mk (st := (tops 10)) l52 c52 k52
  have N52 := fnok_of (O := O) (P := P) (w := w) (K := K) (mg := mg) (base := base) (S := s_first_parted) (xs := x_first_parted) (n := 52) (m := m_first_parted) (qual := "first_parted") (ir := i_first_parted) F52 sc_first_parted ck_first_parted (bs_cons (PySem.W.mg_none_of X G z_len) (bs_cons (PySem.W.mg_none_of X G z_range) bs_nil)) us_nil gs_nil xs_nil ts_nil ys_nil tr_nil mk_run
  have b52 := F52.binds (ps := ["machine", "one", "second", "two"]) fun _ _ _ _ _ _ us hl => match us, hl with | [_, _, _, _], _ => rfl
  have K52 := fok_mk (S := s_first_parted) (n := 52) N52 F52.kp b52 (PySem.W.mg_of X G a52)
  have F53 := fun_mk (st := (tops 11)) l53 c53 k53
  have N53 := fnok_of (O := O) (P := P) (w := w) (K := K) (mg := mg) (base := base) (S := s_parting) (xs := x_parting) (n := 53) (m := m_parting) (qual := "parting") (ir := i_parting) F53 sc_parting ck_parting (bs_cons (PySem.W.mg_none_of X G z_len) bs_nil) (us_cons (f := f_parting) (K52.mono (by first | decide | omega)) us_nil) gs_nil (xs_cons E21 xs_nil) ts_nil ys_nil tr_nil mk_run
  have b53 := F53.binds (ps := ["machine", "one", "two"]) fun _ _ _ _ _ _ us hl => match us, hl with | [_, _, _], _ => rfl
  have K53 := fok_mk (S := s_parting) (n := 53) N53 F53.kp b53 (PySem.W.mg_of X G a53)
  have F345 := fun_mk (st := (tops 24)) l345 c345 k345
  have N345 := fnok_of (O := O) (P := P) (w := w) (K := K) (mg := mg) (base := base) (S := s_takes_word) (xs := x_takes_word) (n := 345) (m := m_takes_word) (qual := "takes_word") (ir := i_takes_word) F345 sc_takes_word ck_takes_word bs_nil us_nil gs_nil xs_nil ts_nil ys_nil tr_nil mk_run
  have b345 := F345.binds (ps := ["machine", "word"]) fun _ _ _ _ _ _ us hl => match us, hl with | [_, _], _ => rfl
  have K345 := fok_mk (S := s_takes_word) (n := 345) N345 F345.kp b345 (PySem.W.mg_of X G a345)
  have F346 := fun_mk (st := (tops 23)) l346 c346 k346
  have N346 := fnok_of (O := O) (P := P) (w := w) (K := K) (mg := mg) (base := base) (S := s_in_first) (xs := x_in_first) (n := 346) (m := m_in_first) (qual := "in_first") (ir := i_in_first) F346 sc_in_first ck_in_first bs_nil (us_cons (f := f_in_first) (K345.mono (by first | decide | omega)) us_nil) gs_nil xs_nil ts_nil ys_nil tr_nil mk_run
  have b346 := F346.binds (ps := ["machine", "one", "two"]) fun _ _ _ _ _ _ us hl => match us, hl with | [_, _, _], _ => rfl
  have K346 := fok_mk (S := s_in_first) (n := 346) N346 F346.kp b346 (PySem.W.mg_of X G a346)
  have F347 := fun_mk (st := (tops 35)) l347 c347 k347
  have N347 := fnok_of (O := O) (P := P) (w := w) (K := K) (mg := mg) (base := base) (S := s_swapped) (xs := x_swapped) (n := 347) (m := m_swapped) (qual := "swapped") (ir := i_swapped) F347 sc_swapped ck_swapped (bs_cons (PySem.W.mg_none_of X G z_range) (bs_cons (PySem.W.mg_none_of X G z_len) bs_nil)) (us_cons (f := f_swapped) (K316.mono (by first | decide | omega)) (us_cons (f := f_swapped) (K53.mono (by first | decide | omega)) (us_cons (f := f_swapped) (K346.mono (by first | decide | omega)) us_nil))) gs_nil xs_nil ts_nil ys_nil tr_nil mk_run
  have b347 := F347.binds (ps := ["machine"]) fun _ _ _ _ _ _ us hl => match us, hl with | [_], _ => rfl
  have K347 := fok_mk (S := s_swapped) (n := 347) N347 F347.kp b347 (PySem.W.mg_of X G a347)
  have F348 := fun_mk (st := (inner 0 (tops 62))) l348 c348 k348
  have N348 := fnok_of (O := O) (P := P) (w := w) (K := K) (mg := mg) (base := base) (S := s_Tally_bar) (xs := x_Tally_bar) (n := 348) (m := m_Tally_bar) (qual := "Tally.bar") (ir := i_Tally_bar) F348 sc_Tally_bar ck_Tally_bar bs_nil (us_cons (f := f_Tally_bar) (K347.mono (by first | decide | omega)) us_nil) gs_nil xs_nil ts_nil ys_nil tr_nil mk_run
  have b348 := F348.binds (ps := ["self", "machine"]) fun _ _ _ _ _ _ us hl => match us, hl with | [_, _], _ => rfl
  have F349 := fun_mk (st := (tops 64)) l349 c349 k349
  have N349 := fnok_of (O := O) (P := P) (w := w) (K := K) (mg := mg) (base := base) (S := s_row_of) (xs := x_row_of) (n := 349) (m := m_row_of) (qual := "row_of") (ir := i_row_of) F349 sc_row_of ck_row_of (bs_cons (PySem.W.mg_none_of X G z_len) bs_nil) us_nil gs_nil xs_nil ts_nil ys_nil tr_nil mk_run
  have b349 := F349.binds (ps := ["machine", "k"]) fun _ _ _ _ _ _ us hl => match us, hl with | [_, _], _ => rfl
  have K349 := fok_mk (S := s_row_of) (n := 349) N349 F349.kp b349 (PySem.W.mg_of X G a349)
  have F350 := fun_mk (st := (tops 66)) l350 c350 k350
  have N350 := fnok_of (O := O) (P := P) (w := w) (K := K) (mg := mg) (base := base) (S := s_word_by) (xs := x_word_by) (n := 350) (m := m_word_by) (qual := "word_by") (ir := i_word_by) F350 sc_word_by ck_word_by (bs_cons (PySem.W.mg_none_of X G z_zip) bs_nil) us_nil gs_nil xs_nil ts_nil ys_nil tr_nil mk_run
  have b350 := F350.binds (ps := ["letters", "some"]) fun _ _ _ _ _ _ us hl => match us, hl with | [_, _], _ => rfl
  have K350 := fok_mk (S := s_word_by) (n := 350) N350 F350.kp b350 (PySem.W.mg_of X G a350)
  have F351 := fun_mk (st := (tops 65)) l351 c351 k351
  have N351 := fnok_of (O := O) (P := P) (w := w) (K := K) (mg := mg) (base := base) (S := s_table_of) (xs := x_table_of) (n := 351) (m := m_table_of) (qual := "table_of") (ir := i_table_of) F351 sc_table_of ck_table_of (bs_cons (PySem.W.mg_none_of X G z_range) bs_nil) (us_cons (f := f_table_of) (K345.mono (by first | decide | omega)) (us_cons (f := f_table_of) (K350.mono (by first | decide | omega)) us_nil)) gs_nil xs_nil (ts_cons ctu_ok ts_nil) ys_nil tr_nil mk_run
  have b351 := F351.binds (ps := ["machine", "rows"]) fun _ _ _ _ _ _ us hl => match us, hl with | [_, _], _ => rfl
  have K351 := fok_mk (S := s_table_of) (n := 351) N351 F351.kp b351 (PySem.W.mg_of X G a351)
  have F352 := fun_mk (st := (inner 1 (tops 62))) l352 c352 k352
  have N352 := fnok_of (O := O) (P := P) (w := w) (K := K) (mg := mg) (base := base) (S := s_Tally_paper) (xs := x_Tally_paper) (n := 352) (m := m_Tally_paper) (qual := "Tally.paper") (ir := i_Tally_paper) F352 sc_Tally_paper ck_Tally_paper (bs_cons (PySem.W.mg_none_of X G z_range) (bs_cons (PySem.W.mg_none_of X G z_len) bs_nil)) (us_cons (f := f_Tally_paper) (K349.mono (by first | decide | omega)) (us_cons (f := f_Tally_paper) (K351.mono (by first | decide | omega)) us_nil)) gs_nil xs_nil ts_nil ys_nil tr_nil mk_run
  have b352 := F352.binds (ps := ["self", "machine"]) fun _ _ _ _ _ _ us hl => match us, hl with | [_, _], _ => rfl
  have F353 := fun_mk (st := (inner 0 (tops 30))) l353 c353 k353
  have N353 := fnok_of (O := O) (P := P) (w := w) (K := K) (mg := mg) (base := base) (S := s_Kind_tell_3) (xs := x_Kind_tell_3) (n := 353) (m := m_Kind_tell_3) (qual := "Kind.tell") (ir := i_Kind_tell_3) F353 sc_Kind_tell_3 ck_Kind_tell_3 bs_nil (us_cons (f := f_Kind_tell_3) (K47.mono (by first | decide | omega)) us_nil) gs_nil xs_nil (ts_cons (mth_ok (ms_cons (mthC_mk N348 b348 Cl307 ⟨y307_bar, w348, k348⟩ (n := 307) rfl (by decide) (F := f_Kind_tell_3) (f := 348) rfl (by first | decide | omega)) ms_nil)) (ts_cons (mth_ok (ms_cons (mthC_mk N352 b352 Cl307 ⟨y307_paper, w352, k352⟩ (n := 307) rfl (by decide) (F := f_Kind_tell_3) (f := 352) rfl (by first | decide | omega)) ms_nil)) ts_nil)) ys_nil tr_nil mk_run
  have b353 := F353.binds (ps := ["self", "machine"]) fun _ _ _ _ _ _ us hl => match us, hl with | [_, _], _ => rfl
  have F354 := fun_mk (st := (tops 70)) l354 c354 k354
  have N354 := fnok_of (O := O) (P := P) (w := w) (K := K) (mg := mg) (base := base) (S := s_tell_3) (xs := x_tell_3) (n := 354) (m := m_tell_3) (qual := "tell") (ir := i_tell_3) F354 sc_tell_3 ck_tell_3 bs_nil (us_cons (f := f_tell_3) (K344.mono (by first | decide | omega)) us_nil) gs_nil xs_nil (ts_cons (mth_ok (ms_cons (mthC_mk N353 b353 Cl307 ⟨y307_tell, w353, k353⟩ (n := 307) rfl (by decide) (F := f_tell_3) (f := 353) rfl (by first | decide | omega)) ms_nil)) ts_nil) ys_nil tr_nil mk_run
  have b354 := F354.binds (ps := ["kind", "machine"]) fun _ _ _ _ _ _ us hl => match us, hl with | [_, _], _ => rfl
  have K354 := fok_mk (S := s_tell_3) (n := 354) N354 F354.kp b354 (PySem.W.mg_of X G a354)
  have F27 := fun_mk (st := (tops 82)) l27 c27 k27
  have N27 := fnok_of (O := O) (P := P) (w := w) (K := K) (mg := mg) (base := base) (S := s_law_after) (xs := x_law_after) (n := 27) (m := m_law_after) (qual := "_law_after") (ir := i_law_after) F27 sc_law_after ck_law_after bs_nil us_nil gs_nil xs_nil ts_nil ys_nil tr_nil mk_run
  have b27 := F27.binds (ps := ["_law_machine_here", "_law_room", "_law_word_here"]) fun _ _ _ _ _ _ us hl => match us, hl with | [_, _, _], _ => rfl
  have K27 := fok_mk (S := s_law_after) (n := 27) N27 F27.kp b27 (PySem.W.mg_of X G a27)
  have F117 := fun_mk (st := (tops 84)) l117 c117 k117
  have N117 := fnok_of (O := O) (P := P) (w := w) (K := K) (mg := mg) (base := base) (S := s_law_takes) (xs := x_law_takes) (n := 117) (m := m_law_takes) (qual := "_law_takes") (ir := i_law_takes) F117 sc_law_takes ck_law_takes bs_nil (us_cons (f := f_law_takes) (K27.mono (by first | decide | omega)) us_nil) gs_nil xs_nil ts_nil ys_nil tr_nil mk_run
  have b117 := F117.binds (ps := ["_law_machine_here", "_law_word_here"]) fun _ _ _ _ _ _ us hl => match us, hl with | [_, _], _ => rfl
  have K117 := fok_mk (S := s_law_takes) (n := 117) N117 F117.kp b117 (PySem.W.mg_of X G a117)
  have F355 := fun_mk (st := (tops 90)) l355 c355 k355
  have N355 := fnok_of (O := O) (P := P) (w := w) (K := K) (mg := mg) (base := base) (S := s_law_table_2) (xs := x_law_table_2) (n := 355) (m := m_law_table_2) (qual := "_law_table") (ir := i_law_table_2) F355 sc_law_table_2 ck_law_table_2 (bs_cons (PySem.W.mg_none_of X G z_zip) (bs_cons (PySem.W.mg_none_of X G z_range) bs_nil)) (us_cons (f := f_law_table_2) (K117.mono (by first | decide | omega)) us_nil) gs_nil xs_nil (ts_cons cat_ok (ts_cons ctu_ok ts_nil)) ys_nil tr_nil mk_run
  have b355 := F355.binds (ps := ["_law_machine_here", "_law_rows"]) fun _ _ _ _ _ _ us hl => match us, hl with | [_, _], _ => rfl
  have K355 := fok_mk (S := s_law_table_2) (n := 355) N355 F355.kp b355 (PySem.W.mg_of X G a355)
  have F371 := fun_mk (st := (tops 91)) l371 c371 k371
  have N371 := fnok_of (O := O) (P := P) (w := w) (K := K) (mg := mg) (base := base) (S := s_law_told_by_2) (xs := x_law_told_by_2) (n := 371) (m := m_law_told_by_2) (qual := "_law_told_by") (ir := i_law_told_by_2) F371 sc_law_told_by_2 ck_law_told_by_2 (bs_cons (PySem.W.mg_none_of X G z_zip) (bs_cons (PySem.W.mg_none_of X G z_tuple) bs_nil)) us_nil gs_nil xs_nil (ts_cons cot_ok ts_nil) ys_nil tr_nil mk_run
  have b371 := F371.binds (ps := ["_law_rows", "_law_letters_here", "_law_word_here"]) fun _ _ _ _ _ _ us hl => match us, hl with | [_, _, _], _ => rfl
  have K371 := fok_mk (S := s_law_told_by_2) (n := 371) N371 F371.kp b371 (PySem.W.mg_of X G a371)
  have F372 := fun_mk (st := (tops 92)) l372 c372 k372
  have N372 := fnok_of (O := O) (P := P) (w := w) (K := K) (mg := mg) (base := base) (S := s_law_beginnings_2) (xs := x_law_beginnings_2) (n := 372) (m := m_law_beginnings_2) (qual := "_law_beginnings") (ir := i_law_beginnings_2) F372 sc_law_beginnings_2 ck_law_beginnings_2 (bs_cons (PySem.W.mg_none_of X G z_range) (bs_cons (PySem.W.mg_none_of X G z_len) bs_nil)) (us_cons (f := f_law_beginnings_2) (K27.mono (by first | decide | omega)) (us_cons (f := f_law_beginnings_2) (K371.mono (by first | decide | omega)) us_nil)) gs_nil xs_nil ts_nil ys_nil tr_nil mk_run
  have b372 := F372.binds (ps := ["_law_machine_here", "_law_rows", "_law_numbers", "_law_word_here"]) fun _ _ _ _ _ _ us hl => match us, hl with | [_, _, _, _], _ => rfl
  have K372 := fok_mk (S := s_law_beginnings_2) (n := 372) N372 F372.kp b372 (PySem.W.mg_of X G a372)
  have F358 := fun_mk (st := (tops 88)) l358 c358 k358
  have N358 := fnok_of (O := O) (P := P) (w := w) (K := K) (mg := mg) (base := base) (S := s_law_alike_rooms) (xs := x_law_alike_rooms) (n := 358) (m := m_law_alike_rooms) (qual := "_law_alike_rooms") (ir := i_law_alike_rooms) F358 sc_law_alike_rooms ck_law_alike_rooms (bs_cons (PySem.W.mg_none_of X G z_range) (bs_cons (PySem.W.mg_none_of X G z_int) (bs_cons (PySem.W.mg_none_of X G z_len) bs_nil))) us_nil gs_nil xs_nil ts_nil ys_nil tr_nil mk_run
  have b358 := F358.binds (ps := ["_law_machine_here"]) fun _ _ _ _ _ _ us hl => match us, hl with | [_], _ => rfl
  have K358 := fok_mk (S := s_law_alike_rooms) (n := 358) N358 F358.kp b358 (PySem.W.mg_of X G a358)
  have F359 := fun_mk (st := (tops 87)) l359 c359 k359
  have N359 := fnok_of (O := O) (P := P) (w := w) (K := K) (mg := mg) (base := base) (S := s_law_come_to_2) (xs := x_law_come_to_2) (n := 359) (m := m_law_come_to_2) (qual := "_law_come_to") (ir := i_law_come_to_2) F359 sc_law_come_to_2 ck_law_come_to_2 (bs_cons (PySem.W.mg_none_of X G z_len) bs_nil) us_nil gs_nil xs_nil ts_nil ys_nil tr_nil mk_run
  have b359 := F359.binds (ps := ["_law_machine_here"]) fun _ _ _ _ _ _ us hl => match us, hl with | [_], _ => rfl
  have K359 := fok_mk (S := s_law_come_to_2) (n := 359) N359 F359.kp b359 (PySem.W.mg_of X G a359)
  have F360 := fun_mk (st := (tops 89)) l360 c360 k360
  have N360 := fnok_of (O := O) (P := P) (w := w) (K := K) (mg := mg) (base := base) (S := s_law_low_and_rest) (xs := x_law_low_and_rest) (n := 360) (m := m_law_low_and_rest) (qual := "_law_low_and_rest") (ir := i_law_low_and_rest) F360 sc_law_low_and_rest ck_law_low_and_rest (bs_cons (PySem.W.mg_none_of X G z_len) bs_nil) (us_cons (f := f_law_low_and_rest) (K358.mono (by first | decide | omega)) (us_cons (f := f_law_low_and_rest) (K359.mono (by first | decide | omega)) us_nil)) gs_nil xs_nil ts_nil ys_nil tr_nil mk_run
  have b360 := F360.binds (ps := ["_law_machine_here", "_law_k"]) fun _ _ _ _ _ _ us hl => match us, hl with | [_, _], _ => rfl
  have K360 := fok_mk (S := s_law_low_and_rest) (n := 360) N360 F360.kp b360 (PySem.W.mg_of X G a360)
  have F69 := fun_mk (st := (tops 85)) l69 c69 k69
  have b69 := F69.binds (ps := ["_law_found", "_law_due"]) fun _ _ _ _ _ _ us hl => match us, hl with | [_, _], _ => rfl
  have R69 : ∀ k, FOk { toOpT := O, P := P, w := w, K := K, mg := mg, base := base } nms (0 + k) 69 (r_law_same k) := by
    intro k
    induction k with
    | zero => exact ⟨_, _, _, PySem.W.mg_of X G a69, F69.kp, b69, fnok_no⟩
    | succ k ih =>
      have N69 := fnok_of (O := O) (P := P) (w := w) (K := K) (mg := mg) (base := base) (S := s_law_same k) (xs := x_law_same) (n := 69) (m := r_law_same (k + 1)) (qual := "_law_same") (ir := i_law_same) F69 sc_law_same (ck_law_same k) (bs_cons (PySem.W.mg_none_of X G z_isinstance) (bs_cons (PySem.W.mg_none_of X G z_bool) (bs_cons (PySem.W.mg_none_of X G z_int) (bs_cons (PySem.W.mg_none_of X G z_str) (bs_cons (PySem.W.mg_none_of X G z_tuple) (bs_cons (PySem.W.mg_none_of X G z_list) (bs_cons (PySem.W.mg_none_of X G z_range) (bs_cons (PySem.W.mg_none_of X G z_len) bs_nil)))))))) (us_cons (f := f_law_same (r_law_same k)) ih us_nil) gs_nil xs_nil ts_nil ys_nil tr_nil mk_run
      exact fok_mk (S := s_law_same k) (n := 69) N69 F69.kp b69 (PySem.W.mg_of X G a69)
  have K69 : FOk { toOpT := O, P := P, w := w, K := K, mg := mg, base := base } nms 8 69 m_law_same := R69 8
  have F13 := fun_mk (st := (tops 74)) l13 c13 k13
  have N13 := fnok_of (O := O) (P := P) (w := w) (K := K) (mg := mg) (base := base) (S := s_law_word) (xs := x_law_word) (n := 13) (m := m_law_word) (qual := "_law_word") (ir := i_law_word) F13 sc_law_word ck_law_word (bs_cons (PySem.W.mg_none_of X G z_len) bs_nil) us_nil gs_nil xs_nil ts_nil ys_nil tr_nil mk_run
  have b13 := F13.binds (ps := ["_law_letters_here", "_law_cells"]) fun _ _ _ _ _ _ us hl => match us, hl with | [_, _], _ => rfl
  have K13 := fok_mk (S := s_law_word) (n := 13) N13 F13.kp b13 (PySem.W.mg_of X G a13)
  have F15 := fun_mk (st := (tops 83)) l15 c15 k15
  have N15 := fnok_of (O := O) (P := P) (w := w) (K := K) (mg := mg) (base := base) (S := s_law_is_word) (xs := x_law_is_word) (n := 15) (m := m_law_is_word) (qual := "_law_is_word") (ir := i_law_is_word) F15 sc_law_is_word ck_law_is_word (bs_cons (PySem.W.mg_none_of X G z_isinstance) (bs_cons (PySem.W.mg_none_of X G z_str) (bs_cons (PySem.W.mg_none_of X G z_len) bs_nil))) us_nil gs_nil xs_nil ts_nil ys_nil tr_nil mk_run
  have b15 := F15.binds (ps := ["_law_found", "_law_letters_here"]) fun _ _ _ _ _ _ us hl => match us, hl with | [_, _], _ => rfl
  have K15 := fok_mk (S := s_law_is_word) (n := 15) N15 F15.kp b15 (PySem.W.mg_of X G a15)
  have F325 := fun_mk (st := (tops 86)) l325 c325 k325
  have N325 := fnok_of (O := O) (P := P) (w := w) (K := K) (mg := mg) (base := base) (S := s_law_bar_words) (xs := x_law_bar_words) (n := 325) (m := m_law_bar_words) (qual := "_law_bar_words") (ir := i_law_bar_words) F325 sc_law_bar_words ck_law_bar_words (bs_cons (PySem.W.mg_none_of X G z_len) bs_nil) (us_cons (f := f_law_bar_words) (K15.mono (by first | decide | omega)) us_nil) gs_nil xs_nil ts_nil ys_nil tr_nil mk_run
  have b325 := F325.binds (ps := ["_law_words", "_law_letters_here"]) fun _ _ _ _ _ _ us hl => match us, hl with | [_, _], _ => rfl
  have K325 := fok_mk (S := s_law_bar_words) (n := 325) N325 F325.kp b325 (PySem.W.mg_of X G a325)
  have F373 := fun_mk (st := (tops 93)) l373 c373 k373
  have N373 := fnok_of (O := O) (P := P) (w := w) (K := K) (mg := mg) (base := base) (S := s_law_swap_2) (xs := x_law_swap_2) (n := 373) (m := m_law_swap_2) (qual := "_law_swap") (ir := i_law_swap_2) F373 sc_law_swap_2 ck_law_swap_2 (bs_cons (PySem.W.mg_none_of X G z_len) (bs_cons (PySem.W.mg_none_of X G z_isinstance) (bs_cons (PySem.W.mg_none_of X G z_str) bs_nil))) (us_cons (f := f_law_swap_2) (K325.mono (by first | decide | omega)) (us_cons (f := f_law_swap_2) (K117.mono (by first | decide | omega)) us_nil)) gs_nil xs_nil (ts_cons cot_ok ts_nil) ys_nil tr_nil mk_run
  have b373 := F373.binds (ps := ["_law_machine_here", "_law_bar"]) fun _ _ _ _ _ _ us hl => match us, hl with | [_, _], _ => rfl
  have K373 := fok_mk (S := s_law_swap_2) (n := 373) N373 F373.kp b373 (PySem.W.mg_of X G a373)
  have F375 := fun_mk (st := (tops 94)) l375 c375 k375
  have N375 := fnok_of (O := O) (P := P) (w := w) (K := K) (mg := mg) (base := base) (S := s_law_top_51) (xs := x_law_top_51) (n := 375) (m := m_law_top_51) (qual := "law") (ir := i_law_top_51) F375 sc_law_top_51 ck_law_top_51 (bs_cons (PySem.W.mg_none_of X G z_isinstance) (bs_cons (PySem.W.mg_none_of X G z_tuple) (bs_cons (PySem.W.mg_none_of X G z_len) (bs_cons (PySem.W.mg_none_of X G z_bool) (bs_cons (PySem.W.mg_none_of X G z_range) bs_nil))))) (us_cons (f := f_law_top_51) (K22.mono (by first | decide | omega)) (us_cons (f := f_law_top_51) (K314.mono (by first | decide | omega)) (us_cons (f := f_law_top_51) (K354.mono (by first | decide | omega)) (us_cons (f := f_law_top_51) (K355.mono (by first | decide | omega)) (us_cons (f := f_law_top_51) (K372.mono (by first | decide | omega)) (us_cons (f := f_law_top_51) (K6.mono (by first | decide | omega)) (us_cons (f := f_law_top_51) (K360.mono (by first | decide | omega)) (us_cons (f := f_law_top_51) (K69.mono (by first | decide | omega)) (us_cons (f := f_law_top_51) (K13.mono (by first | decide | omega)) (us_cons (f := f_law_top_51) (K373.mono (by first | decide | omega)) us_nil)))))))))) gs_nil xs_nil ts_nil ys_nil tr_nil mk_run
  exact law_ofT N375 law_holds tabsAll_in
end RA
open PySem PySem.W PyProof.Rows
theorem PySem.W.Fast.tw18108643037923275552 : True := trivial
theorem PySem.W.Fast.tw13744756747056404577 : True := trivial
theorem PySem.W.Fast.tw9358258775509463877 : True := trivial
theorem PySem.W.Fast.tw16386269431614402727 : True := trivial
theorem PySem.W.Fast.tw16023238582622824967 : True := trivial
theorem PySem.W.Fast.tw10356311226952590698 : True := trivial
theorem PySem.W.Fast.tw7222708710830372268 : True := trivial
theorem PySem.W.Fast.tw17647011167398605552 : True := trivial
theorem PySem.W.Fast.tw3948496878436696242 : True := trivial
theorem PySem.W.Fast.tw10329974706113061368 : True := trivial
theorem PySem.W.Fast.tw2941316099526937400 : True := trivial
theorem PySem.W.Fast.tw1427418954169930202 : True := trivial
theorem PySem.W.Fast.tw14078428388121849754 : True := trivial
theorem PySem.W.Fast.tw5015517450636602270 : True := trivial
theorem PySem.W.Fast.tw11688274322303945183 : True := trivial
theorem PySem.W.Fast.tw4378527092050089663 : True := trivial
set_option maxRecDepth 100000 in
set_option maxHeartbeats 0 in
theorem PySem.Challenge.cw_roomalgebra_k54_by_how_many_times_holds : PySem.Challenge.rw_roomalgebra_k54_by_how_many_times.Holds := by
  w_on; o_law; k_head; (case hw => w_witness2)
  k_fill
  refine RA.walk_ofT (l := PySem.Challenge.rw_roomalgebra_k54_by_how_many_times) (n := 63) (k := 9) (x := "_law_script") (CX := fun w => L2.CX PySem.Challenge.rw_roomalgebra_k54_by_how_many_times.prog w) rfl (by decide) rfl ⟨rfl, by decide, by decide⟩ (fun w h Y => PySem.W.km_in_of Y) ?F (fun w H s e s2 z => RA.cx_end z)
  case F =>
    intro w mg fa h KX G hmg TI
    refine' RA.all_mk KX G hmg TI ?ra_aC307 ?ra_y3071 ?ra_y3072 ?ra_y3073 ?ra_y3074 ?ra_y3075 ?ra_y3076 ?ra_y3077 ?ra_y307_bar ?ra_y307_paper ?ra_y307_tell ?ra_a22 ?ra_l22 ?ra_c22 ?ra_k22 ?ra_a6 ?ra_l6 ?ra_c6 ?ra_k6 ?ra_a309 ?ra_l309 ?ra_c309 ?ra_k309 ?ra_a310 ?ra_l310 ?ra_c310 ?ra_k310 ?ra_a23 ?ra_l23 ?ra_c23 ?ra_k23 ?ra_a311 ?ra_l311 ?ra_c311 ?ra_k311 ?ra_a312 ?ra_l312 ?ra_c312 ?ra_k312 ?ra_a313 ?ra_l313 ?ra_c313 ?ra_k313 ?ra_a314 ?ra_l314 ?ra_c314 ?ra_k314 ?ra_a344 ?ra_l344 ?ra_c344 ?ra_k344 ?ra_a43 ?ra_l43 ?ra_c43 ?ra_k43 ?ra_a44 ?ra_l44 ?ra_c44 ?ra_k44 ?ra_a45 ?ra_l45 ?ra_c45 ?ra_k45 ?ra_a46 ?ra_l46 ?ra_c46 ?ra_k46 ?ra_a37 ?ra_l37 ?ra_c37 ?ra_k37 ?ra_a47 ?ra_l47 ?ra_c47 ?ra_k47 ?ra_a316 ?ra_l316 ?ra_c316 ?ra_k316 ?ra_a52 ?ra_l52 ?ra_c52 ?ra_k52 ?ra_a53 ?ra_l53 ?ra_c53 ?ra_k53 ?ra_a345 ?ra_l345 ?ra_c345 ?ra_k345 ?ra_a346 ?ra_l346 ?ra_c346 ?ra_k346 ?ra_a347 ?ra_l347 ?ra_c347 ?ra_k347 ?ra_l348 ?ra_c348 ?ra_k348 ?ra_w348 ?ra_a349 ?ra_l349 ?ra_c349 ?ra_k349 ?ra_a350 ?ra_l350 ?ra_c350 ?ra_k350 ?ra_a351 ?ra_l351 ?ra_c351 ?ra_k351 ?ra_l352 ?ra_c352 ?ra_k352 ?ra_w352 ?ra_l353 ?ra_c353 ?ra_k353 ?ra_w353 ?ra_a354 ?ra_l354 ?ra_c354 ?ra_k354 ?ra_a27 ?ra_l27 ?ra_c27 ?ra_k27 ?ra_a117 ?ra_l117 ?ra_c117 ?ra_k117 ?ra_a355 ?ra_l355 ?ra_c355 ?ra_k355 ?ra_a371 ?ra_l371 ?ra_c371 ?ra_k371 ?ra_a372 ?ra_l372 ?ra_c372 ?ra_k372 ?ra_a358 ?ra_l358 ?ra_c358 ?ra_k358 ?ra_a359 ?ra_l359 ?ra_c359 ?ra_k359 ?ra_a360 ?ra_l360 ?ra_c360 ?ra_k360 ?ra_a69 ?ra_l69 ?ra_c69 ?ra_k69 ?ra_a13 ?ra_l13 ?ra_c13 ?ra_k13 ?ra_a15 ?ra_l15 ?ra_c15 ?ra_k15 ?ra_a325 ?ra_l325 ?ra_c325 ?ra_k325 ?ra_a373 ?ra_l373 ?ra_c373 ?ra_k373 ?ra_a375 ?ra_l375 ?ra_c375 ?ra_k375 ?ra_z_range ?ra_z_len ?ra_z_tuple ?ra_z_max ?ra_z_zip ?ra_z_int ?ra_z_isinstance ?ra_z_bool ?ra_z_str ?ra_z_list ?ra_aC21 ?ra_xC21 ?ra_kC21 ?ra_eC21 ?ra_tC21
    (case ra_aC307 => k_is); (case ra_y3071 => first | k_is | rfl | decide +kernel); (case ra_y3072 => first | k_is | rfl | decide +kernel); (case ra_y3073 => first | k_is | rfl | decide +kernel); (case ra_y3074 => first | k_is | rfl | decide +kernel); (case ra_y3075 => first | k_is | rfl | decide +kernel)
    (case ra_y3076 => first | k_is | rfl | decide +kernel); (case ra_y3077 => first | k_is | rfl | decide +kernel); (case ra_y307_bar => k_is); (case ra_y307_paper => k_is); (case ra_y307_tell => k_is); (case ra_a22 => k_is)
    (case ra_l22 => k_is); (case ra_c22 => k_is); (case ra_k22 => k_is); (case ra_a6 => k_is); (case ra_l6 => k_is); (case ra_c6 => k_is)
    (case ra_k6 => k_is); (case ra_a309 => k_is); (case ra_l309 => k_is); (case ra_c309 => k_is); (case ra_k309 => k_is); (case ra_a310 => k_is)
    (case ra_l310 => k_is); (case ra_c310 => k_is); (case ra_k310 => k_is); (case ra_a23 => k_is); (case ra_l23 => k_is); (case ra_c23 => k_is)
    (case ra_k23 => k_is); (case ra_a311 => k_is); (case ra_l311 => k_is); (case ra_c311 => k_is); (case ra_k311 => k_is); (case ra_a312 => k_is)
    (case ra_l312 => k_is); (case ra_c312 => k_is); (case ra_k312 => k_is); (case ra_a313 => k_is); (case ra_l313 => k_is); (case ra_c313 => k_is)
    (case ra_k313 => k_is); (case ra_a314 => k_is); (case ra_l314 => k_is); (case ra_c314 => k_is); (case ra_k314 => k_is); (case ra_a344 => k_is)
    (case ra_l344 => k_is); (case ra_c344 => k_is); (case ra_k344 => k_is); (case ra_a43 => k_is); (case ra_l43 => k_is); (case ra_c43 => k_is)
    (case ra_k43 => k_is); (case ra_a44 => k_is); (case ra_l44 => k_is); (case ra_c44 => k_is); (case ra_k44 => k_is); (case ra_a45 => k_is)
    (case ra_l45 => k_is); (case ra_c45 => k_is); (case ra_k45 => k_is); (case ra_a46 => k_is); (case ra_l46 => k_is); (case ra_c46 => k_is)
    (case ra_k46 => k_is); (case ra_a37 => k_is); (case ra_l37 => k_is); (case ra_c37 => k_is); (case ra_k37 => k_is); (case ra_a47 => k_is)
    (case ra_l47 => k_is); (case ra_c47 => k_is); (case ra_k47 => k_is); (case ra_a316 => k_is); (case ra_l316 => k_is); (case ra_c316 => k_is)
    (case ra_k316 => k_is); (case ra_a52 => k_is); (case ra_l52 => k_is); (case ra_c52 => k_is); (case ra_k52 => k_is); (case ra_a53 => k_is)
    (case ra_l53 => k_is); (case ra_c53 => k_is); (case ra_k53 => k_is); (case ra_a345 => k_is); (case ra_l345 => k_is); (case ra_c345 => k_is)
    (case ra_k345 => k_is); (case ra_a346 => k_is); (case ra_l346 => k_is); (case ra_c346 => k_is); (case ra_k346 => k_is); (case ra_a347 => k_is)
    (case ra_l347 => k_is); (case ra_c347 => k_is); (case ra_k347 => k_is); (case ra_l348 => k_is); (case ra_c348 => k_is); (case ra_k348 => k_is)
    (case ra_w348 => first | k_is | rfl); (case ra_a349 => k_is); (case ra_l349 => k_is); (case ra_c349 => k_is); (case ra_k349 => k_is); (case ra_a350 => k_is)
    (case ra_l350 => k_is); (case ra_c350 => k_is); (case ra_k350 => k_is); (case ra_a351 => k_is); (case ra_l351 => k_is); (case ra_c351 => k_is)
    (case ra_k351 => k_is); (case ra_l352 => k_is); (case ra_c352 => k_is); (case ra_k352 => k_is); (case ra_w352 => first | k_is | rfl); (case ra_l353 => k_is)
    (case ra_c353 => k_is); (case ra_k353 => k_is); (case ra_w353 => first | k_is | rfl); (case ra_a354 => k_is); (case ra_l354 => k_is); (case ra_c354 => k_is)
    (case ra_k354 => k_is); (case ra_a27 => k_is); (case ra_l27 => k_is); (case ra_c27 => k_is); (case ra_k27 => k_is); (case ra_a117 => k_is)
    (case ra_l117 => k_is); (case ra_c117 => k_is); (case ra_k117 => k_is); (case ra_a355 => k_is); (case ra_l355 => k_is); (case ra_c355 => k_is)
    (case ra_k355 => k_is); (case ra_a371 => k_is); (case ra_l371 => k_is); (case ra_c371 => k_is); (case ra_k371 => k_is); (case ra_a372 => k_is)
    (case ra_l372 => k_is); (case ra_c372 => k_is); (case ra_k372 => k_is); (case ra_a358 => k_is); (case ra_l358 => k_is); (case ra_c358 => k_is)
    (case ra_k358 => k_is); (case ra_a359 => k_is); (case ra_l359 => k_is); (case ra_c359 => k_is); (case ra_k359 => k_is); (case ra_a360 => k_is)
    (case ra_l360 => k_is); (case ra_c360 => k_is); (case ra_k360 => k_is); (case ra_a69 => k_is); (case ra_l69 => k_is); (case ra_c69 => k_is)
    (case ra_k69 => k_is); (case ra_a13 => k_is); (case ra_l13 => k_is); (case ra_c13 => k_is); (case ra_k13 => k_is); (case ra_a15 => k_is)
    (case ra_l15 => k_is); (case ra_c15 => k_is); (case ra_k15 => k_is); (case ra_a325 => k_is); (case ra_l325 => k_is); (case ra_c325 => k_is)
    (case ra_k325 => k_is); (case ra_a373 => k_is); (case ra_l373 => k_is); (case ra_c373 => k_is); (case ra_k373 => k_is); (case ra_a375 => k_is)
    (case ra_l375 => k_is); (case ra_c375 => k_is); (case ra_k375 => k_is); (case ra_z_range => k_is); (case ra_z_len => k_is); (case ra_z_tuple => k_is)
    (case ra_z_max => k_is); (case ra_z_zip => k_is); (case ra_z_int => k_is); (case ra_z_isinstance => k_is); (case ra_z_bool => k_is); (case ra_z_str => k_is)
    (case ra_z_list => k_is); (case ra_aC21 => k_is); (case ra_xC21 => k_exc); (case ra_kC21 => k_is); (case ra_eC21 => k_is); (case ra_tC21 => k_is)
