import PyProof.Rows.All
import HandS.More
import Wide.All
import OpenK.AllK
import Wide.FinOn
import HandS.ForMost
import HandS.ForExc
import HandS.Walk
import HandS.CallSlots
import KE.GoesZip
import KE.KDictKeyed
import HandS.Dict
import HandS.TupLen
import HandS.IsInst
import HandS.Deep
import PyProof.NeKinds
import HandS.Style
import PyProof.Rows.StrStep
import HandS.Text
import HandS.Zip
import KE.GoesMore
import HandS.ExcField
import KE.KExcIs
import PyProof.ExcBaseAll.ValueError
import HandS.ExcBuiltin
import HandS.ExcIs
import HandS.ExcInit
import HandS.HeadWalk
import HandS.Conv
import KE.KDictCopyH
import HandS.WideBits
import OpenK.KMake
import HandS.TupAny
import KE.KDictZip
import KE.KDictItemsList
import PyProof.CollectWalk
import HandS.Nested
import HandS.EndTab
import KE.SortKeyHeap
import KE.SortData
import HandS.ExcValue
import HandS.NoneIn
import PySem.Challenge.RW_roomalgebra_k62_groups_of_acts
set_option Elab.async false
set_option linter.all false
set_option maxRecDepth 100000
set_option maxHeartbeats 4000000
/-! RA1: plain data D, and what it means that a value stands for it. -/
namespace RA
open PySem PySem.Spec PyProof.Rows L2
/-- plain data -/
inductive D where
  | non | bl (b : Bool) | int (i : Int) | str (s : List Nat) | tup (xs : List D) | lst (xs : List D) | dct (kvs : List (D × D)) | opq (n : Nat) (cs : List D)
/-- no table -/
def NoT : HO → Prop
  | .tbl _ => False
  | _ => True
/-- no cell that is told -/
def NoCel (b : Addr) (o : HO) : Prop := ∀ oc v, o = .frz oc (.own b) → oc.data ≠ .cell v
/-- what stands beside the plain kinds: closures, errors, own objects -/
structure OpT where
  op : (Addr → Prop) → Hp → Nat → List V → Addr → Prop
  op_mono : ∀ {B : Addr → Prop} {H H' : Hp} {n : Nat} {vs : List V} {a : Addr}, op B H n vs a → (∀ b o, ¬ B b → H b = some o → NoT o → H' b = some o) → (∀ b o u, H b = some (.frz o u) → H' b = some (.frz o u)) → op B H' n vs a
  op_grow : ∀ {B B' : Addr → Prop} {H : Hp} {n : Nat} {vs : List V} {a : Addr}, op B H n vs a → (∀ b, B' b → B b ∨ H b = none) → op B' H n vs a
  /-- only numbers from 1000 on lean on cells -/
  op_cel : ∀ {B : Addr → Prop} {H H' : Hp} {n : Nat} {vs : List V} {a : Addr}, n < 1000 → op B H n vs a → (∀ b o, H b = some o → NoT o → NoCel b o → H' b = some o) → op B H' n vs a
  ecls : Nat → Addr
  enames : Nat → List Str
  /-- whether a list may be the script's -/
  scr : Prop := True
structure Cfg extends OpT where
  P : Program
  w : World
  K : PySem.W.Frag
  mg : Str → Option Value
  base : Heap
abbrev cfg (X : Cx) (O : OpT) : Cfg := { toOpT := O, P := X.prog, w := X.w, K := X.K, mg := X.mg, base := X.base }
/-! ### code objects' tables: the defs and lambdas within defs -/
/-- the tables that are known, and the name that stands at each place -/
class Tabs where
  T : List (Addr × (Nat → Nat → Str))
/-- the object at c is a code object of the name q, and stays -/
def CodeF (H : Hp) (c : Addr) (q : Str) : Prop := ∃ (oc : Obj) (vs : Array Value) (t : Tok), H c = some (.frz oc (.own c)) ∧ oc.data = .fields vs ∧ vs[1]? = some (.str q t)
def TabF (H : Hp) (P : Addr) (nm : Nat → Nat → Str) : Prop := ∃ ps : Array Value, H P = some (.tbl ps) ∧ TriplesOk ps.toList ∧ ∀ (pos : Pos) (cv : Value), codeAmong pos ps.toList = some cv → ∃ c, cv = .ref c ∧ CodeF H c (nm pos.line pos.col)
variable [Tabs]
def TabsOk (H : Hp) : Prop := ∀ p ∈ (Tabs.T : List (Addr × (Nat → Nat → Str))), TabF H p.1 p.2
/-- the heap stays, but at B; tables may grow -/
structure Ext (B : Addr → Prop) (H H' : Hp) : Prop where
  keep : ∀ a o, ¬ B a → H a = some o → NoT o → H' a = some o
  tbl : ∀ a ps, ¬ B a → H a = some (.tbl ps) → ∃ qs, H' a = some (.tbl qs)
  tab : TabsOk H → TabsOk H'
  frz : ∀ a o u, H a = some (.frz o u) → H' a = some (.frz o u)
/-- the heap stays; tables may grow -/
structure Same (H H' : Hp) : Prop where
  keep : ∀ a o, H a = some o → NoT o → H' a = some o
  tbl : ∀ a ps, H a = some (.tbl ps) → ∃ qs, H' a = some (.tbl qs)
  tab : TabsOk H → TabsOk H'
theorem Ext.there {B : Addr → Prop} {H H' : Hp} (e : Ext B H H') (a : Addr) (hb : ¬ B a) (h : H a ≠ none) : H' a ≠ none := by
  obtain ⟨o, ho⟩ := Option.ne_none_iff_exists'.mp h
  have k := e.keep a o hb ho
  cases o with
  | tbl ps => obtain ⟨qs, q⟩ := e.tbl a ps hb ho; rw [q]; intro z; cases z
  | _ => rw [k trivial]; intro z; cases z
theorem Same.there {H H' : Hp} (e : Same H H') (a : Addr) (h : H a ≠ none) : H' a ≠ none := by
  obtain ⟨o, ho⟩ := Option.ne_none_iff_exists'.mp h
  have k := e.keep a o ho
  cases o with
  | tbl ps => obtain ⟨qs, q⟩ := e.tbl a ps ho; rw [q]; intro z; cases z
  | _ => rw [k trivial]; intro z; cases z
/-- what was no table is none -/
theorem Same.noT {H H' : Hp} (e : Same H H') {a : Addr} {o u : HO} (h : H a = some o) (h' : H' a = some u) (n : NoT u) : o = u := by
  have k := e.keep a o h
  cases o with
  | tbl ps => obtain ⟨qs, q⟩ := e.tbl a ps h; rw [h'] at q; cases q; exact n.elim
  | _ => rw [k trivial] at h'; exact Option.some.inj h'
theorem Ext.refl (B : Addr → Prop) (H : Hp) : Ext B H H := ⟨fun _ _ _ h _ => h, fun _ _ _ h => ⟨_, h⟩, fun h => h, fun _ _ _ h => h⟩
theorem Ext.trans {B : Addr → Prop} {H H1 H2 : Hp} (a : Ext B H H1) (b : Ext B H1 H2) : Ext B H H2 := ⟨fun c o hb h n => b.keep c o hb (a.keep c o hb h n) n, fun c ps hb h => let ⟨_, q⟩ := a.tbl c ps hb h; b.tbl c _ hb q, fun h => b.tab (a.tab h), fun c o u h => b.frz c o u (a.frz c o u h)⟩
theorem Ext.less {B B' : Addr → Prop} {H H' : Hp} (a : Ext B H H') (h : ∀ b, B b → B' b) : Ext B' H H' := ⟨fun c o hb => a.keep c o fun z => hb (h c z), fun c ps hb => a.tbl c ps fun z => hb (h c z), a.tab, a.frz⟩
theorem Same.refl (H : Hp) : Same H H := ⟨fun _ _ h _ => h, fun _ _ h => ⟨_, h⟩, fun h => h⟩
theorem Same.trans {H H1 H2 : Hp} (a : Same H H1) (b : Same H1 H2) : Same H H2 := ⟨fun c o h n => b.keep c o (a.keep c o h n) n, fun c ps h => let ⟨_, q⟩ := a.tbl c ps h; b.tbl c _ q, fun h => b.tab (a.tab h)⟩
theorem Same.free {H H' : Hp} (s : Same H H') {a : Addr} (h : H' a = none) : H a = none := by
  cases e : H a with
  | none => rfl
  | some o => exact absurd h (s.there a (by rw [e]; intro z; cases z))
theorem Same.ext {B : Addr → Prop} {H H' : Hp} (a : Same H H') : Ext B H H' := ⟨fun c o _ h => a.keep c o h, fun c ps _ h => a.tbl c ps h, a.tab, fun c o u h => a.keep c _ h trivial⟩
theorem Ext.same {B : Addr → Prop} {H H' : Hp} (a : Ext B H H') (h : ∀ b, ¬ B b) : Same H H' := ⟨fun c o => a.keep c o (h c), fun c ps => a.tbl c ps (h c), a.tab⟩
theorem TabF.mono {H H' : Hp} {P : Addr} {nm : Nat → Nat → Str} (t : TabF H P nm) (k1 : ∀ ps, H P = some (.tbl ps) → H' P = some (.tbl ps)) (k2 : ∀ c oc, H c = some (.frz oc (.own c)) → H' c = some (.frz oc (.own c))) : TabF H' P nm := by
  obtain ⟨ps, h1, h2, h3⟩ := t
  refine ⟨ps, k1 _ h1, h2, fun pos cv hc => ?_⟩
  obtain ⟨c, e, oc, vs, t, h, r⟩ := h3 pos cv hc
  exact ⟨c, e, oc, vs, t, k2 _ _ h, r⟩
theorem TabsOk.mono {H H' : Hp} (t : TabsOk H) (k1 : ∀ P ps, H P = some (.tbl ps) → H' P = some (.tbl ps)) (k2 : ∀ c oc, H c = some (.frz oc (.own c)) → H' c = some (.frz oc (.own c))) : TabsOk H' := fun p hp => (t p hp).mono (k1 _) k2
theorem TabsOk.all {H H' : Hp} (t : TabsOk H) (k : ∀ a o, H a = some o → H' a = some o) : TabsOk H' := t.mono (fun _ _ => k _ _) fun _ _ => k _ _
theorem Same.all {H H' : Hp} (k : ∀ a o, H a = some o → H' a = some o) : Same H H' := by
  exact ⟨fun a o h _ => k a o h, fun a ps h => ⟨ps, k a _ h⟩, fun t => TabsOk.all t k⟩
theorem Same.new {H : Hp} {p : Addr} {o : HO} (h : H p = none) : Same H (upd H p o) := Same.all fun a u e => by
  rw [upd_ne (ne_of_none e h)]
  exact e
/-- kinds that may be written -/
def OwnK : HO → Prop
  | .lst _ => True
  | .ext _ => True
  | _ => False
theorem TabsOk.wr {H H' : Hp} {a : Addr} {u : HO} (t : TabsOk H) (e : H a = some u) (hu : OwnK u) (hx : ∀ b, b ≠ a → H b ≠ none → H' b = H b) : TabsOk H' := by
  have ne : ∀ {b o}, H b = some o → ¬ OwnK o → b ≠ a := fun {b o} h n z => by
    rw [z, e] at h; cases h; exact n hu
  refine t.mono (fun P ps h => ?_) fun c oc h => ?_
  · rw [hx P (ne h id) (by rw [h]; intro z; cases z)]; exact h
  · rw [hx c (ne h id) (by rw [h]; intro z; cases z)]; exact h
/-- one is written -/
theorem Ext.wr {B : Addr → Prop} {H H' : Hp} {a : Addr} {u : HO} (e : H a = some u) (hu : OwnK u) (hb : B a) (hx : ∀ b, b ≠ a → H b ≠ none → H' b = H b) : Ext B H H' := by
  have k : ∀ b, ¬ B b → H b ≠ none → H' b = H b := fun b nb h => hx b (fun z => nb (z ▸ hb)) h
  exact ⟨fun b o nb h _ => by rw [k b nb (by rw [h]; intro z; cases z)]; exact h, fun b ps nb h => ⟨ps, by rw [k b nb (by rw [h]; intro z; cases z)]; exact h⟩, fun t => t.wr e hu hx, fun b o v h => by rw [hx b (fun z => by rw [z, e] at h; cases h; exact hu) (by rw [h]; intro z; cases z)]; exact h⟩
theorem Ext.upd {B : Addr → Prop} {H : Hp} {a : Addr} {u o : HO} (e : H a = some u) (hu : OwnK u) (hb : B a) : Ext B H (upd H a o) := Ext.wr e hu hb fun b nb _ => upd_ne nb
/-- an own list, tuple of the heap, or one that the text has written: the latter holds whole numbers alone -/
def LstAt (K : PySem.W.Frag) (s : Prop) (B : Addr → Prop) (H : Hp) (a : Addr) (vs : List V) : Prop :=
  (H a = some (.lst vs) ∧ ¬ B a) ∨ (((Rd H a (.lst vs) ∧ ¬ B a) ∨
    ∃ (o : Obj) (its : Array Value) (n : Nat), K.lookup a = some o ∧ o.cls = .type "list" ∧ o.dict = none ∧ o.data = .seq its n ∧ its.size ≤ sizeLine ∧ Vals vs its.toList) ∧ s ∧ ∀ v ∈ vs, ∃ i, v = .int i)
def TupAt (K : PySem.W.Frag) (B : Addr → Prop) (H : Hp) (a : Addr) (vs : List V) : Prop :=
  (Rd H a (.tup vs) ∧ ¬ B a) ∨
    ∃ (o : Obj) (its : Array Value) (n : Nat), K.lookup a = some o ∧ o.cls = .type "tuple" ∧ o.data = .seq its n ∧ its.size ≤ sizeLine ∧ Vals vs its.toList
section
variable {K : PySem.W.Frag} {s : Prop} {B B' : Addr → Prop} {H H' : Hp} {a : Addr} {vs : List V} {u : HO}
theorem Rd.mono (h : Rd H a u) (e : Ext B H H') (hb : ¬ B a) (n : NoT u) : Rd H' a u := by
  rcases h with h | ⟨o, h⟩
  · exact .inl (e.keep _ _ hb h n)
  · exact .inr ⟨o, e.keep _ _ hb h trivial⟩
theorem Rd.ne (h : Rd H a u) : H a ≠ none := by
  rcases h with h | ⟨o, h⟩ <;> (rw [h]; intro z; cases z)
theorem LstAt.sq (h : LstAt K s B H a vs) : SqL K H a vs := h.elim (fun z => .inl (.inl z.1)) fun z => z.1.elim (fun z => .inl z.1) .inr
theorem TupAt.sq (h : TupAt K B H a vs) : SqT K H a vs := h.elim (fun z => .inl z.1) .inr
theorem LstAt.mono (h : LstAt K s B H a vs) (e : Ext B H H') : LstAt K s B H' a vs := h.imp (fun z => ⟨e.keep _ _ z.2 z.1 trivial, z.2⟩) fun y => ⟨y.1.imp (fun z => ⟨Rd.mono z.1 e z.2 trivial, z.2⟩) id, y.2⟩
theorem TupAt.mono (h : TupAt K B H a vs) (e : Ext B H H') : TupAt K B H' a vs := h.imp (fun z => ⟨Rd.mono z.1 e z.2 trivial, z.2⟩) id
theorem LstAt.grow (h : LstAt K s B H a vs) (g : ∀ b, B' b → B b ∨ H b = none) : LstAt K s B' H a vs := h.imp (fun z => ⟨z.1, fun q => (g a q).elim z.2 fun n => Rd.ne (.inl z.1) n⟩) fun y => ⟨y.1.imp (fun z => ⟨z.1, fun q => (g a q).elim z.2 fun n => Rd.ne z.1 n⟩) id, y.2⟩
theorem TupAt.grow (h : TupAt K B H a vs) (g : ∀ b, B' b → B b ∨ H b = none) : TupAt K B' H a vs := h.imp (fun z => ⟨z.1, fun q => (g a q).elim z.2 fun n => Rd.ne z.1 n⟩) id
theorem LstAt.of (h : H a = some (.lst vs)) (hb : ¬ B a) : LstAt K s B H a vs := .inl ⟨h, hb⟩
theorem LstAt.ints {ns : List Int} (hs : s) (h : SqL K H a (ns.map V.int)) : LstAt K s (fun _ => False) H a (ns.map V.int) := .inr ⟨h.imp (fun z => ⟨z, fun q => q⟩) id, hs, fun v hv => by obtain ⟨i, _, rfl⟩ := List.mem_map.mp hv; exact ⟨i, rfl⟩⟩
theorem TupAt.of (h : H a = some (.tup vs)) (hb : ¬ B a) : TupAt K B H a vs := .inl ⟨.inl h, hb⟩
end
/-- what was made behind the start is written -/
theorem Same.updNew {H H' : Hp} {a : Addr} {u o : HO} (s : Same H H') (n : H a = none) (e : H' a = some u) (hu : OwnK u) : Same H (upd H' a o) := by
  refine ⟨fun b v h nt => ?_, fun b ps h => ?_, fun t => (s.tab t).wr e hu fun b nb _ => upd_ne nb⟩
  · rw [upd_ne (ne_of_none h n)]; exact s.keep b v h nt
  · rw [upd_ne (ne_of_none h n)]; exact s.tbl b ps h
/-! ### keys of dicts -/
mutual
def keyD : D → Option NestedKey
  | .non => some NestedKey.none
  | .bl b => some (.num (if b = true then 1 else 0))
  | .int i => some (.num i)
  | .str s => some (.text ⟨⟨s⟩⟩)
  | .tup xs => (keyDs xs).map .tup
  | .lst _ => none
  | .dct _ => none
  | .opq _ _ => none
def keyDs : List D → Option (List NestedKey)
  | [] => some []
  | x :: xs => match keyD x, keyDs xs with
    | some k, some ks => some (k :: ks)
    | _, _ => none
end
/-- a key that is carried by its value -/
def leafD : D → Option Leaf
  | .non => some .none
  | .bl b => some (.num (if b = true then 1 else 0))
  | .int i => some (.num i)
  | .str s => some (.text ⟨⟨s⟩⟩)
  | _ => none
def isBl : D → Bool
  | .bl _ => true
  | _ => false
/-- no truth among the keys -/
def noBl (kvs : List (D × D)) : Bool := kvs.all fun kv => !isBl kv.1
def notBlV : Value → Bool
  | .bool _ => false
  | _ => true
/-- keys by value; e: none of them is a truth -/
def kindX (P : Program) (w : World) (e : Bool) : KeyKind P w Leaf where
  is k v := (leafKind P w).is k v && (!e || notBlV v)
  hash := (leafKind P w).hash
  inj := fun v a b ha hb => (leafKind P w).inj v a b (Bool.and_eq_true_iff.mp ha).1 (Bool.and_eq_true_iff.mp hb).1
  byValue := fun k v h => (leafKind P w).byValue k v (Bool.and_eq_true_iff.mp h).1
  pyHash := fun hv h => (leafKind P w).pyHash (Bool.and_eq_true_iff.mp hv).1 h
  eqBool := fun hu hv h => (leafKind P w).eqBool (Bool.and_eq_true_iff.mp hu).1 (Bool.and_eq_true_iff.mp hv).1 h
  «strs» := fun k x t v h => by
    have h1 := (leafKind P w).strs k x t v (Bool.and_eq_true_iff.mp h).1
    show ((leafKind P w).is k v && (!e || notBlV v)) = v.isStr x
    rw [h1]
    cases v <;> first | rfl | (show (_ && (!e || true)) = _; rw [Bool.or_true, Bool.and_true])
theorem dict_nil {P : Program} {w : World} {h : Heap} {a : Addr} {e f : Bool} (z : h.DictOf (kindX P w e) a []) : h.DictOf (kindX P w f) a [] := by
  obtain ⟨o, es, ep, h1, h2, h3, h4, h5, h6⟩ := z
  have e0 : es.toList = [] := by
    cases q : es.toList with
    | nil => rfl
    | cons x l => rw [q] at h5; cases h5
  have e1 : es = #[] := Array.toList_eq_nil_iff.mp e0
  subst e1
  exact ⟨o, #[], ep, h1, h2, h3, fun x hx => by simp at hx, .nil, List.nodup_nil⟩
mutual
/-- the value v stands for the data d; B: the addresses that it does not lean on -/
inductive Rep (c : Cfg) (B : Addr → Prop) (H : Hp) : D → V → Prop
  | non : Rep c B H .non .non
  | bl (b : Bool) : Rep c B H (.bl b) (.bl b)
  | int (i : Int) : Rep c B H (.int i) (.int i)
  | str (s : List Nat) : Rep c B H (.str s) (.str ⟨⟨s⟩⟩)
  | tup {a : Addr} {vs : List V} {ds : List D} : TupAt c.K B H a vs → Reps c B H ds vs → Rep c B H (.tup ds) (.ref a)
  | lst {a : Addr} {vs : List V} {ds : List D} : LstAt c.K c.scr B H a vs → Reps c B H ds vs → Rep c B H (.lst ds) (.ref a)
  | dctK {a : Addr} {us : List (Leaf × Value)} {kvs : List (D × D)} : H a = some (.ext fun h => us.length ≤ sizeLine ∧ (a == sysModules) = false ∧ h.DictOf (kindX c.P c.w (noBl kvs)) a us) → ¬ B a → RepK c B H kvs us → Rep c B H (.dct kvs) (.ref a)
  | dctT {a : Addr} {us : List (NestedKey × Addr × Value)} {kvs : List (D × D)} :
      H a = some (.ext fun h => us.length ≤ sizeLine ∧ (a == sysModules) = false ∧ ∃ o es ep, h.get? a = some o ∧ o.ExactDict ∧ o.data = .dict es ep ∧ es.toList = us.map (entryOfKey (nestedKind c.P c.w)) ∧ (us.map (·.1)).Nodup) → ¬ B a → RepT c B H kvs us → Rep c B H (.dct kvs) (.ref a)
  | opq {a : Addr} {n : Nat} {vs : List V} {ds : List D} : c.op B H n vs a → Reps c B H ds vs → Rep c B H (.opq n ds) (.ref a)
inductive Reps (c : Cfg) (B : Addr → Prop) (H : Hp) : List D → List V → Prop
  | nil : Reps c B H [] []
  | cons {d : D} {v : V} {ds : List D} {vs : List V} : Rep c B H d v → Reps c B H ds vs → Reps c B H (d :: ds) (v :: vs)
/-- entries whose keys are carried by value -/
inductive RepK (c : Cfg) (B : Addr → Prop) (H : Hp) : List (D × D) → List (Leaf × Value) → Prop
  | nil : RepK c B H [] []
  | cons {k d : D} {v : V} {l : Leaf} {u : Value} {kvs : List (D × D)} {us : List (Leaf × Value)} : leafD k = some l → Rep c B H d v → RelV v u → RepK c B H kvs us → RepK c B H ((k, d) :: kvs) ((l, u) :: us)
/-- entries whose keys are tuples -/
inductive RepT (c : Cfg) (B : Addr → Prop) (H : Hp) : List (D × D) → List (NestedKey × Addr × Value) → Prop
  | nil : RepT c B H [] []
  | cons {k : List D} {d : D} {v : V} {l : NestedKey} {q : Addr} {u : Value} {kvs : List (D × D)} {us : List (NestedKey × Addr × Value)} : keyD (.tup k) = some l → l.depth ≤ 8 → Rep c B H (.tup k) (.ref q) → Rep c B H d v → RelV v u → RepT c B H kvs us → RepT c B H ((.tup k, d) :: kvs) ((l, q, u) :: us)
end
section
variable {c : Cfg} {B B' : Addr → Prop} {H H' : Hp}
mutual
theorem Rep.mono (e : Ext B H H') : ∀ {d : D} {v : V}, Rep c B H d v → Rep c B H' d v
  | _, _, .non => .non
  | _, _, .bl b => .bl b
  | _, _, .int i => .int i
  | _, _, .str s => .str s
  | _, _, .tup h r => .tup (h.mono e) (Reps.mono e r)
  | _, _, .lst h r => .lst (h.mono e) (Reps.mono e r)
  | _, _, .dctK h b r => .dctK (e.keep _ _ b h trivial) b (RepK.mono e r)
  | _, _, .dctT h b r => .dctT (e.keep _ _ b h trivial) b (RepT.mono e r)
  | _, _, .opq h r => .opq (c.op_mono h e.keep e.frz) (Reps.mono e r)
theorem Reps.mono (e : Ext B H H') : ∀ {ds : List D} {vs : List V}, Reps c B H ds vs → Reps c B H' ds vs
  | _, _, .nil => .nil
  | _, _, .cons h t => .cons (Rep.mono e h) (Reps.mono e t)
theorem RepK.mono (e : Ext B H H') : ∀ {kvs : List (D × D)} {us : List (Leaf × Value)}, RepK c B H kvs us → RepK c B H' kvs us
  | _, _, .nil => .nil
  | _, _, .cons k h r t => .cons k (Rep.mono e h) r (RepK.mono e t)
theorem RepT.mono (e : Ext B H H') : ∀ {kvs : List (D × D)} {us : List (NestedKey × Addr × Value)}, RepT c B H kvs us → RepT c B H' kvs us
  | _, _, .nil => .nil
  | _, _, .cons k dp kq h r t => .cons k dp (Rep.mono e kq) (Rep.mono e h) r (RepT.mono e t)
end
mutual
theorem Rep.grow (g : ∀ b, B' b → B b ∨ H b = none) : ∀ {d : D} {v : V}, Rep c B H d v → Rep c B' H d v
  | _, _, .non => .non
  | _, _, .bl b => .bl b
  | _, _, .int i => .int i
  | _, _, .str s => .str s
  | _, _, .tup h r => .tup (h.grow g) (Reps.grow g r)
  | _, _, .lst h r => .lst (h.grow g) (Reps.grow g r)
  | _, _, .dctK h b r => .dctK h (fun q => (g _ q).elim b fun n => by rw [h] at n; cases n) (RepK.grow g r)
  | _, _, .dctT h b r => .dctT h (fun q => (g _ q).elim b fun n => by rw [h] at n; cases n) (RepT.grow g r)
  | _, _, .opq h r => .opq (c.op_grow h g) (Reps.grow g r)
theorem Reps.grow (g : ∀ b, B' b → B b ∨ H b = none) : ∀ {ds : List D} {vs : List V}, Reps c B H ds vs → Reps c B' H ds vs
  | _, _, .nil => .nil
  | _, _, .cons h t => .cons (Rep.grow g h) (Reps.grow g t)
theorem RepK.grow (g : ∀ b, B' b → B b ∨ H b = none) : ∀ {kvs : List (D × D)} {us : List (Leaf × Value)}, RepK c B H kvs us → RepK c B' H kvs us
  | _, _, .nil => .nil
  | _, _, .cons k h r t => .cons k (Rep.grow g h) r (RepK.grow g t)
theorem RepT.grow (g : ∀ b, B' b → B b ∨ H b = none) : ∀ {kvs : List (D × D)} {us : List (NestedKey × Addr × Value)}, RepT c B H kvs us → RepT c B' H kvs us
  | _, _, .nil => .nil
  | _, _, .cons k dp kq h r t => .cons k dp (Rep.grow g kq) (Rep.grow g h) r (RepT.grow g t)
end
theorem Rep.less (g : ∀ b, B' b → B b) {d : D} {v : V} (h : Rep c B H d v) : Rep c B' H d v := h.grow fun b q => .inl (g b q)
theorem Reps.less (g : ∀ b, B' b → B b) {d : List D} {v : List V} (h : Reps c B H d v) : Reps c B' H d v := h.grow fun b q => .inl (g b q)
theorem Reps.length : ∀ {ds : List D} {vs : List V}, Reps c B H ds vs → ds.length = vs.length
  | _, _, .nil => rfl
  | _, _, .cons _ t => by rw [List.length_cons, List.length_cons, Reps.length t]
theorem Reps.get : ∀ {ds : List D} {vs : List V} {i : Nat} {d : D}, Reps c B H ds vs → ds[i]? = some d → ∃ v, vs[i]? = some v ∧ Rep c B H d v
  | _, _, _, _, .nil, e => by simp at e
  | _, _, 0, _, .cons r _, e => by simp at e; subst e; exact ⟨_, rfl, r⟩
  | _, _, i + 1, d, .cons _ t, e => by
    obtain ⟨v, h1, h2⟩ := Reps.get (i := i) (d := d) t (by simpa using e)
    exact ⟨v, by simpa using h1, h2⟩
theorem Reps.getV : ∀ {ds : List D} {vs : List V} {i : Nat} {v : V}, Reps c B H ds vs → vs[i]? = some v → ∃ d, ds[i]? = some d ∧ Rep c B H d v
  | _, _, _, _, .nil, e => by simp at e
  | _, _, 0, _, .cons r _, e => by simp at e; subst e; exact ⟨_, rfl, r⟩
  | _, _, i + 1, d, .cons _ t, e => by
    obtain ⟨v, h1, h2⟩ := Reps.getV (i := i) (v := d) t (by simpa using e)
    exact ⟨v, by simpa using h1, h2⟩
theorem Reps.app : ∀ {ds es : List D} {vs ws : List V}, Reps c B H ds vs → Reps c B H es ws → Reps c B H (ds ++ es) (vs ++ ws)
  | _, _, _, _, .nil, s => s
  | _, _, _, _, .cons r t, s => .cons r (Reps.app t s)
theorem Reps.set {d : D} {v : V} (r : Rep c B H d v) : ∀ {ds : List D} {vs : List V} (i : Nat), Reps c B H ds vs → Reps c B H (ds.set i d) (vs.set i v)
  | _, _, _, .nil => .nil
  | _, _, 0, .cons _ t => .cons r t
  | _, _, i + 1, .cons q t => .cons q (Reps.set r i t)
theorem Reps.take : ∀ {ds : List D} {vs : List V} (n : Nat), Reps c B H ds vs → Reps c B H (ds.take n) (vs.take n)
  | _, _, 0, _ => .nil
  | _, _, _ + 1, .nil => .nil
  | _, _, n + 1, .cons r t => .cons r (Reps.take n t)
theorem Reps.drop : ∀ {ds : List D} {vs : List V} (n : Nat), Reps c B H ds vs → Reps c B H (ds.drop n) (vs.drop n)
  | _, _, 0, r => r
  | _, _, _ + 1, .nil => .nil
  | _, _, n + 1, .cons _ t => Reps.drop n t
theorem Reps.dropLast : ∀ {ds : List D} {vs : List V}, Reps c B H ds vs → Reps c B H ds.dropLast vs.dropLast
  | _, _, .nil => .nil
  | _, _, .cons _ .nil => .nil
  | _, _, .cons r (.cons r2 t) => .cons r (Reps.dropLast (.cons r2 t))
theorem Reps.rev : ∀ {ds : List D} {vs : List V}, Reps c B H ds vs → Reps c B H ds.reverse vs.reverse
  | _, _, .nil => .nil
  | _, _, .cons r t => by rw [List.reverse_cons, List.reverse_cons]; exact Reps.app (Reps.rev t) (.cons r .nil)
theorem Reps.rep {ds : List D} {vs : List V} (h : Reps c B H ds vs) : ∀ k : Nat, Reps c B H (List.replicate k ds).flatten (List.replicate k vs).flatten
  | 0 => .nil
  | k + 1 => by
    rw [List.replicate_succ, List.replicate_succ, List.flatten_cons, List.flatten_cons]
    exact Reps.app h (Reps.rep h k)
theorem Reps.ints : ∀ {ns : List Int}, Reps c B H (ns.map D.int) (ns.map V.int)
  | [] => .nil
  | n :: ns => .cons (.int n) Reps.ints
end
end RA
/-! RA2: a small language of expressions and statements over plain data, and what they come to. -/
namespace RA
open PySem PySem.Spec PyProof.Rows L2
/-- val: may be kept; tmp: looked at, of an own list or dict; own: a new list or dict that nobody else has -/
inductive Fl where
  | val | tmp | own
  deriving DecidableEq
inductive Rs (α : Type) where
  | no | ok (a : α) | ex (c : Nat) (fs : List D)
def Rs.bind {α β : Type} : Rs α → (α → Rs β) → Rs β
  | .no, _ => .no
  | .ok a, f => f a
  | .ex c fs, _ => .ex c fs
@[simp] theorem Rs.bind_no {α β : Type} (f : α → Rs β) : (Rs.no : Rs α).bind f = .no := (rfl)
@[simp] theorem Rs.bind_ok {α β : Type} (a : α) (f : α → Rs β) : (Rs.ok a).bind f = f a := (rfl)
@[simp] theorem Rs.bind_ex {α β : Type} (c : Nat) (fs : List D) (f : α → Rs β) : (Rs.ex c fs : Rs α).bind f = .ex c fs := (rfl)
/-- an error there is none of ours -/
def Rs.quiet {α : Type} : Rs α → Rs α
  | .ex _ _ => .no
  | r => r
abbrev Ev := List (Option (Bool × D))
/-- what a def hands back: whether it is a new list or dict of its own, and the data -/
abbrev FT := Nat → List D → Rs (Bool × D)
inductive Bop where
  | add | sub | mul | fdiv | mod | pow | shl | shr | band | bor
  deriving DecidableEq
inductive Cop where
  | eq | ne | lt | le | gt | ge | isn | isnt | mem | nmem
  deriving DecidableEq
/-- built-in functions and classes, called -/
inductive Bf where
  | len | tuple | list | max | min | int | sum | any | all | abs | divmod | isBool | isInt | isStr | isTup | isLst | sortedI
  deriving DecidableEq
/-- methods of built-in kinds -/
inductive Mf where
  | find | join
  deriving DecidableEq
inductive Tg where
  | one (i : Nat) | tup (is : List Nat)
/-- further walks: d.items() -/
inductive WK where
  | itm
  deriving DecidableEq
/-- further expressions, of parts that come first: isinstance(x, y), y an own class; x.f of an error or own object -/
inductive XT where
  | isc (y : Str) (ys ns : List Nat)
  | fld (k j : Nat) (f : Str)
  | rgl | rgt | dvl | dkl | cat | jrv
  /-- f(..), f a local that holds a function made within a def -/
  | cal (ks : List Nat)
  /-- C(), C an own class without __init__ -/
  | mk (n : Nat) (x : Str)
  /-- o.m(..), by o's class -/
  | mth (m : Str) (ks : List (Nat × Nat))
  /-- list(zip(a, b, c)); t + u of tuples; s.startswith(t), s.endswith(t), s.count(t) -/
  | zl3 | ctu | stw | enw | cot
  /-- list * number -/
  | lmu
  /-- d.get(k, v) -/
  | dgt
  /-- C(a, ..): an instance with these fields -/
  | mkf (n : Nat) (x : Str) (k : Nat)
  /-- o.f, by o's class: the field's place -/
  | flo (f : Str) (ks : List (Nat × Nat))
  /-- a walk -/
  | wk (w : WK)
  deriving DecidableEq
/-- what is handed to a call that may change lists: an own list's slot; a thing; a new list that nobody else has -/
inductive Ar where
  | ln (i : Nat) | pl | tm
  deriving DecidableEq
/-- further statements, of parts that come first -/
inductive YT where
  | rsx (c : Nat) (x : Str) (n : Nat)
  | clr (i : Nat)
  /-- a, b, .. = a list -/
  | unl (is : List Nat)
  /-- if (g or) N[i].setdefault(a, b) != c: return False -/
  | sdf (i : Nat) (g : Bool)
  /-- N[i].append(e), N[i] one's own or lent -/
  | apl (i : Nat)
  /-- N[j] = N[i].pop(); N[i].pop() -/
  | pop (i j : Nat) | popd (i : Nat)
  /-- N[i].append(f(.., N[i].pop(), names)); N[j] = f(.., N[i].pop(), names) -/
  | apf (i f : Nat) (ps : List Nat) | stf (j i f : Nat) (ps : List Nat)
  /-- a call that may change lists; what it hands back at N[j] -/
  | lcl (f : Nat) (as : List Ar) (j : Option Nat)
  /-- .. the parts of what it hands back at these places -/
  | lcu (f : Nat) (as : List Ar) (is : List Nat)
  deriving DecidableEq
/-- what an except clause does: N[j] = the error, N[j] = d -/
inductive Hd where
  | as (i j : Nat) | cst (j : Nat) (d : D)
mutual
inductive IE where
  | v (i : Nat) | pk (i : Nat) | pv (i : Nat) | k (d : D) | gl (n : Nat)
  | b (op : Bop) (x y : IE) | neg (x : IE) | cmp (op : Cop) (x y : IE)
  | and_ (x y : IE) | or_ (x y : IE) | not_ (x : IE) | ife (t x y : IE)
  | tup (as : IEs) | lst (as : IEs) | dct (ks vs : IEs)
  | ix (x i : IE) | sl (x lo hi : IE) | out | rv (x : IE) | lset (x : IE) | lix (x y : IE)
  | bi (f : Bf) (as : IEs) | me (m : Mf) (o : IE) (as : IEs) | call (n : Nat) (as : IEs)
  | comp (tg : Tg) (it : II) (t : IE) (e : IE)
  | xt (t : XT) (as : IEs)
inductive IEs where
  | nil | cons (x : IE) (as : IEs)
/-- what is walked -/
inductive II where
  | ex (x : IE) | rng1 (x : IE) | rng2 (x y : IE) | zip2 (x y : IE) | rev (x : IE) | xi (w : WK) (as : IEs)
end
/-! ### operations on data -/
def mulOk (i j : Int) : Bool := decide ((-(2 ^ 64) < i ∧ i < 2 ^ 64) ∨ (-(2 ^ 64) < j ∧ j < 2 ^ 64))
def powOk (i j : Int) : Bool := decide (0 ≤ j ∧ j ≤ 1000000 ∧ i.natAbs < 2 ^ 64)
def binD : Bop → D → D → Rs (Fl × D)
  | .add, .int i, .int j => .ok (.val, .int (i + j))
  | .add, .str s, .str t => if s.length + t.length ≤ sizeLine then .ok (.val, .str (s ++ t)) else .no
  | .sub, .int i, .int j => .ok (.val, .int (i - j))
  | .mul, .int i, .int j => if mulOk i j = true then .ok (.val, .int (i * j)) else .no
  | .mul, .str s, .int j => if 0 ≤ j ∧ s.length * j.toNat ≤ 1000000 ∧ j ≤ 1000000 then .ok (.val, .str (List.replicate j.toNat s).flatten) else .no
  | .fdiv, .int i, .int j => if 0 < j ∧ j < 1073741824 then .ok (.val, .int (i / j)) else .no
  | .mod, .int i, .int j => if 0 < j then .ok (.val, .int (i % j)) else .no
  | .pow, .int i, .int j => if powOk i j = true then .ok (.val, .int (i ^ j.toNat)) else .no
  | .shl, .int i, .int j => if powOk i j = true then .ok (.val, .int (i * 2 ^ j.toNat)) else .no
  | .shr, .int i, .int j => if 0 ≤ j then .ok (.val, .int (i / 2 ^ j.toNat)) else .no
  | .band, .int i, .int j => .ok (.val, .int (Builtin.bitAnd i j))
  | .bor, .int i, .int j => .ok (.val, .int (Builtin.bitOr i j))
  | _, _, _ => .no
mutual
def toP : D → PyData
  | .non => .none
  | .bl b => .bool b
  | .int i => .int i
  | .str s => .str ⟨⟨s⟩⟩
  | .tup xs => .tuple (toPs xs)
  | .lst xs => .list (toPs xs)
  | .dct _ => .dict []
  | .opq _ _ => .dict []
def toPs : List D → List PyData
  | [] => []
  | x :: xs => toP x :: toPs xs
end
/-- kinds whose == needs no look -/
def scalD : D → D → Bool
  | .non, .non => true | .non, .int _ => true | .int _, .non => true | .non, .bl _ => true | .bl _, .non => true | .non, .str _ => true | .str _, .non => true
  | .int _, .int _ => true | .bl _, .bl _ => true | .str _, .str _ => true
  | .int _, .str _ => true | .str _, .int _ => true | .bl _, .str _ => true | .str _, .bl _ => true
  | _, _ => false
def eqS : D → D → Bool
  | .non, .non => true
  | .int i, .int j => decide (i = j)
  | .bl i, .bl j => decide (i = j)
  | .str i, .str j => decide (i = j)
  | _, _ => false
/-- a list that holds something, and the empty one -/
def lenE : D → D → Rs Bool
  | .lst (_ :: _), .lst [] => .ok false
  | _, _ => .no
def eqD (x y : D) : Rs Bool :=
  if scalD x y = true then .ok (eqS x y)
  else if (SeqAt.shaped (toP x) && SeqAt.shaped (toP y)) = true then .ok (PyData.eqv (toP x) (toP y))
  else lenE x y
def flatD : D → Bool
  | .non => true | .bl _ => true | .int _ => true | .str _ => true | _ => false
/-- == of flat data -/
def eqF : D → D → Bool
  | .non, .non => true
  | .bl a, .bl b => a == b
  | .bl a, .int b => (if a then 1 else 0) == b
  | .int a, .bl b => a == (if b then 1 else 0)
  | .int a, .int b => a == b
  | .str a, .str b => a == b
  | _, _ => false
/-! dicts: the pairs in their order -/
def keyEq (x y : D) : Bool := decide (keyD x = keyD y)
def dGet (kvs : List (D × D)) (k : D) : Option D := (kvs.find? fun kv => keyEq kv.1 k).map (·.2)
def dPut (kvs : List (D × D)) (k v : D) : List (D × D) :=
  if (kvs.any fun kv => keyEq kv.1 k) = true then kvs.map (fun kv => if keyEq kv.1 k = true then (kv.1, v) else kv) else kvs ++ [(k, v)]
/-- whether k may be asked of a dict with these keys: all by value, or all tuples -/
def leafy (k : D) : Bool := (leafD k).isSome
def tupKey (k : D) : Bool := match k with
  | .tup _ => (match keyD k with | some l => decide (l.depth ≤ 8) | none => false)
  | _ => false
def keysL (kvs : List (D × D)) (k : D) : Bool := leafy k && kvs.all fun kv => leafy kv.1 && (isBl kv.1 == isBl k)
def keysT (kvs : List (D × D)) (k : D) : Bool := tupKey k && kvs.all fun kv => tupKey kv.1
def keysOk (kvs : List (D × D)) (k : D) : Bool := keysL kvs k || keysT kvs k
def memD (x : D) : D → Rs Bool
  | .str s => (match x with | .str [ch] => .ok (decide (ch ∈ s)) | _ => .no)
  | .lst ys => if (flatD x && ys.all flatD) = true then .ok (ys.any fun y => eqF y x)
    else if (SeqAt.shaped (toP x) && SeqAt.shaped (toP (.lst ys))) = true then .ok ((toPs ys).any fun y => PyData.eqv y (toP x)) else .no
  | .tup ys => if (flatD x && ys.all flatD) = true then .ok (ys.any fun y => eqF y x) else .no
  | .dct kvs => if keysOk kvs x = true then .ok (dGet kvs x).isSome else .no
  | _ => .no
def isNon : D → Bool
  | .non => true
  | _ => false
def cmpD : Cop → D → D → Rs Bool
  | .eq, x, y => eqD x y
  | .ne, x, y => (eqD x y).bind fun b => .ok (!b)
  | .lt, .int i, .int j => .ok (decide (i < j))
  | .lt, .str i, .str j => .ok (decide (i < j))
  | .le, .int i, .int j => .ok (decide (i ≤ j))
  | .gt, .int i, .int j => .ok (decide (j < i))
  | .gt, .str i, .str j => .ok (decide (j < i))
  | .ge, .int i, .int j => .ok (decide (j ≤ i))
  | .isn, x, .non => .ok (isNon x)
  | .isnt, x, .non => .ok (!isNon x)
  | .mem, x, y => memD x y
  | .nmem, x, y => (memD x y).bind fun b => .ok (!b)
  | _, _, _ => .no
def ixD : D → D → Rs D
  | .lst xs, .int i => (match atI xs i with | some d => .ok d | none => .no)
  | .tup xs, .int i => (match atI xs i with | some d => .ok d | none => .no)
  | .str s, .int i => if s.length ≤ sizeLine then (match atI s i with | some ch => .ok (.str [ch]) | none => .no) else .no
  | .dct kvs, k => if keysOk kvs k = true then (match dGet kvs k with | some d => .ok d | none => .no) else .no
  | _, _ => .no
/-- the bounds of a slice of n items -/
def cutD {α : Type} (xs : List α) (lo hi : Option Int) : List α := (xs.drop (HT.sIx xs.length 0 lo)).take (HT.sIx xs.length xs.length hi - HT.sIx xs.length 0 lo)
/-- a bound of a slice, or none there -/
def prt (out : Bool) (r : Rs (Fl × D)) : Rs (Option Int) := r.bind fun a => match a.2 with
  | .int i => .ok (some i)
  | .non => if out = true then .ok none else .no
  | _ => .no
def isOut : IE → Bool
  | .out => true
  | _ => false
def slD (x : D) (lo hi : Option Int) : Rs (Fl × D) := match x with
  | .lst xs => .ok (.own, .lst (cutD xs lo hi))
  | .str s => if s.length ≤ sizeLine then .ok (.val, .str (cutD s lo hi)) else .no
  | .tup xs => if HT.sIx xs.length 0 lo = 0 ∧ HT.sIx xs.length xs.length hi = xs.length then .no else .ok (.val, .tup (cutD xs lo hi))
  | _ => .no
/-- x[::-1] -/
def rvD : D → Rs (Fl × D)
  | .lst xs => .ok (.own, .lst xs.reverse)
  | .str s => if s.length ≤ sizeLine then .ok (.val, .str s.reverse) else .no
  | _ => .no
def intsOf : List D → Option (List Int)
  | [] => some []
  | .int i :: r => (intsOf r).map (i :: ·)
  | _ :: _ => none
def blsOf : List D → Option (List Bool)
  | [] => some []
  | .bl i :: r => (blsOf r).map (i :: ·)
  | _ :: _ => none
def strsOf : List D → Option (List (List Nat))
  | [] => some []
  | .str i :: r => (strsOf r).map (i :: ·)
  | _ :: _ => none
def maxL : List Int → Option Int
  | [] => none
  | x :: r => some (r.foldl (fun a b => if a < b then b else a) x)
def minL : List Int → Option Int
  | [] => none
  | x :: r => some (r.foldl (fun a b => if b < a then b else a) x)
def biD : Bf → List D → Rs (Fl × D)
  | .len, [.str s] => if s.length ≤ sizeLine then .ok (.val, .int s.length) else .no
  | .len, [.lst xs] => .ok (.val, .int xs.length)
  | .len, [.tup xs] => .ok (.val, .int xs.length)
  | .len, [.dct kvs] => if ((kvs.all fun kv => leafy kv.1) || kvs.all fun kv => tupKey kv.1) = true then .ok (.val, .int kvs.length) else .no
  | .tuple, [.lst xs] => .ok (.val, .tup xs)
  | .list, [.lst xs] => .ok (.own, .lst xs)
  | .list, [.tup xs] => .ok (.own, .lst xs)
  | .max, [.lst xs] => (match intsOf xs with | some ns => (match maxL ns with | some m => .ok (.val, .int m) | none => .no) | none => .no)
  | .min, [.lst xs] => (match intsOf xs with | some ns => (match minL ns with | some m => .ok (.val, .int m) | none => .no) | none => .no)
  | .max, [.int i, .int j] => .ok (.val, .int (if j > i then j else i))
  | .min, [.int i, .int j] => .ok (.val, .int (if j < i then j else i))
  | .int, [.int i] => .ok (.val, .int i)
  | .int, [.bl k] => .ok (.val, .int (if k then 1 else 0))
  | .sum, [.lst xs] => (match intsOf xs with | some ns => .ok (.val, .int ns.sum) | none => .no)
  | .any, [.lst xs] => (match blsOf xs with | some bs => .ok (.val, .bl (bs.any id)) | none => .no)
  | .all, [.lst xs] => (match blsOf xs with | some bs => .ok (.val, .bl (bs.all id)) | none => .no)
  | .abs, [.int i] => .ok (.val, .int (if i < 0 then -i else i))
  | .divmod, [.int i, .int j] => if 0 < j ∧ j < 1073741824 then .ok (.val, .tup [.int (i / j), .int (i % j)]) else .no
  | .isBool, [x] => (match x with | .opq _ _ => .no | .dct _ => .no | .bl _ => .ok (.val, .bl true) | _ => .ok (.val, .bl false))
  | .isInt, [x] => (match x with | .opq _ _ => .no | .dct _ => .no | .bl _ => .ok (.val, .bl true) | .int _ => .ok (.val, .bl true) | _ => .ok (.val, .bl false))
  | .isStr, [x] => (match x with | .opq _ _ => .no | .dct _ => .no | .str _ => .ok (.val, .bl true) | _ => .ok (.val, .bl false))
  | .isTup, [x] => (match x with | .opq _ _ => .no | .dct _ => .no | .tup _ => .ok (.val, .bl true) | _ => .ok (.val, .bl false))
  | .isLst, [x] => (match x with | .opq _ _ => .no | .dct _ => .no | .lst _ => .ok (.val, .bl true) | _ => .ok (.val, .bl false))
  | _, _ => .no
/-- len(set(x)), unlike whole numbers -/
def lsetD : D → Rs (Fl × D)
  | .lst xs => (match intsOf xs with | some ns => if ns.Nodup ∧ ns.length ≤ 4000 then .ok (.val, .int ns.length) else .no | none => .no)
  | _ => .no
/-- where a sign first stands -/
def findL (s : List Nat) (ch : Nat) : Int := match s.findIdx? (· == ch) with | some i => i | none => -1
def joinD : List (List Nat) → List Nat
  | [] => []
  | x :: r => x ++ joinD r
def sumLen : List (List Nat) → Nat
  | [] => 0
  | x :: r => x.length + sumLen r
def meD : Mf → D → List D → Rs (Fl × D)
  | .find, .str s, [.str [ch]] => .ok (.val, .int (findL s ch))
  | .join, .str [], [.lst xs] => (match strsOf xs with | some ss => if sumLen ss ≤ 1000000 then .ok (.val, .str (joinD ss)) else .no | none => .no)
  | _, _, _ => .no
def recvOk : D → Bool
  | .str _ => true
  | _ => false
def keepOk (ds : List (Fl × D)) : Bool := ds.all fun x => decide (x.1 ≠ .tmp)
def setAll : List Nat → List D → Ev → Ev
  | i :: is, d :: ds, G => setAll is ds (G.set i (some (false, d)))
  | _, _, G => G
def bindT : Tg → D → Ev → Option Ev
  | .one i, d, G => some (G.set i (some (false, d)))
  | .tup is, .tup ds, G => if is.length = ds.length then some (setAll is ds G) else none
  | _, _, _ => none
def forget : List Nat → Ev → Ev
  | [], G => G
  | i :: is, G => (forget is G).set i none
def tgSlots : Tg → List Nat
  | .one i => [i]
  | .tup is => is
mutual
/-- no list, no dict, no own kind anywhere -/
def noL : D → Bool
  | .lst _ => false | .dct _ => false | .opq _ _ => false
  | .tup ds => noLs ds
  | _ => true
def noLs : List D → Bool
  | [] => true
  | d :: ds => noL d && noLs ds
end
/-- what may come back from a call to which own lists or dicts were lent: it does not lean on them -/
def lendOk : Bool × D → Bool
  | (true, .dct kvs) => kvs.all fun kv => noL kv.1 && noL kv.2
  | (true, .lst ds) => noLs ds
  | (true, _) => false
  | (false, d) => noL d
/-- no own list or dict stands there -/
def freeAt (G : Ev) (i : Nat) : Bool := match G[i]? with
  | some (some (true, _)) => false
  | _ => true
def compGo (t : Ev → Rs Bool) (e : Ev → Rs (Fl × D)) (tg : Tg) (G : Ev) : List D → Rs (List D)
  | [] => .ok []
  | d :: ds => match bindT tg d G with
    | none => .no
    | some G' => (t G').bind fun b => if b = true then (e G').bind fun r => (if r.1 = .tmp then .no else (compGo t e tg G ds).bind fun rs => .ok (r.2 :: rs)) else compGo t e tg G ds
def rangeD (lo hi : Int) : List D := (List.range (hi - lo).toNat).map fun (i : Nat) => D.int (lo + (i : Int))
def zipD : List D → List D → List D
  | x :: xs, y :: ys => .tup [x, y] :: zipD xs ys
  | _, _ => []
/-- the items of what may be walked -/
def itemsD : D → Option (List D)
  | .lst xs => some xs
  | .tup xs => some xs
  | .str s => some (s.map fun ch => .str [ch])
  | _ => none
def smallI (i : Int) : Bool := decide (-(2 ^ 62) ≤ i ∧ i < 2 ^ 62)
def asB (r : Rs (Fl × D)) : Rs Bool := r.bind fun x => match x.2 with | .bl b => .ok b | _ => .no
def putAll : List (Fl × D) → List (Fl × D) → List (D × D) → Option (List (D × D))
  | [], [], acc => some acc
  | k :: ks, v :: vs, acc => if (keysOk acc k.2 && decide (v.1 ≠ .tmp)) = true then putAll ks vs (dPut acc k.2 v.2) else none
  | _, _, _ => none
/-- x.index(y) of a list -/
def lixD (ys : List D) (b : D) : Rs (Fl × D) := if (flatD b && ys.all flatD) = true then (match ys.findIdx? fun y => eqF y b with | some i => .ok (.val, .int (i : Nat)) | none => .no)
  else if (SeqAt.shaped (toP (.lst ys)) && SeqAt.shaped (toP b)) = true then (match (toPs ys).findIdx? fun y => PyData.eqv y (toP b) with | some i => .ok (.val, .int (i : Nat)) | none => .no) else .no
mutual
/-- no function that leans on cells anywhere -/
def noCel : D → Bool
  | .tup ds => noCels ds
  | .lst ds => noCels ds
  | .dct kvs => noCelK kvs
  | .opq n ds => decide (n < 1000) && noCels ds
  | _ => true
def noCels : List D → Bool
  | [] => true
  | d :: ds => noCel d && noCels ds
def noCelK : List (D × D) → Bool
  | [] => true
  | (k, d) :: r => noCel k && noCel d && noCelK r
end
/-- a function's promise asks for that -/
def cellF (m : List D → Rs (Bool × D)) : List D → Rs (Bool × D) := fun ds => if noCels ds = true then m ds else .no
def zip3D : List D → List D → List D → List D
  | x :: xs, y :: ys, z :: zs => .tup [x, y, z] :: zip3D xs ys zs
  | _, _, _ => []
/-- what a further walk goes through -/
def wkD : WK → List (Fl × D) → Rs (List D)
  | .itm, [a] => (match a.2 with
    | .dct kvs => if a.1 = .own ∧ (kvs.all fun kv => leafy kv.1 && !isBl kv.1) = true then .ok (kvs.map fun kv => .tup [kv.1, kv.2]) else .no
    | _ => .no)
  | _, _ => .no
/-- what a further expression comes to -/
def xtD (F : FT) : XT → List (Fl × D) → Rs (Fl × D)
  | .isc _ ys ns, [a] => (match a.2 with
    | .non => .ok (.val, .bl false)
    | .opq k _ => if ys.contains k = true then .ok (.val, .bl true) else if ns.contains k = true then .ok (.val, .bl false) else .no
    | _ => .no)
  | .fld k j _, [a] => (match a.2 with
    | .opq n cs => if n = k then (match cs[j]? with | some d => .ok (.val, d) | none => .no) else .no
    | _ => .no)
  | .rgl, [a] => (match a.2 with
    | .int j => if 0 ≤ j ∧ j ≤ 16777216 then .ok (.own, .lst (rangeD 0 j)) else .no
    | _ => .no)
  | .rgt, [a] => (match a.2 with
    | .int j => if 0 ≤ j ∧ j ≤ 16777216 then .ok (.val, .tup (rangeD 0 j)) else .no
    | _ => .no)
  | .cat, [a, b] => (match a.2, b.2 with
    | .lst xs, .lst ys => if xs.length + ys.length ≤ 16777216 then .ok (.own, .lst (xs ++ ys)) else .no
    | _, _ => .no)
  | .jrv, [b] => (match b.2 with
    | .str s => if s.length ≤ 16777216 then .ok (.val, .str s.reverse) else .no
    | _ => .no)
  | .dvl, [a] => (match a.2 with
    | .dct kvs => if (kvs.all fun kv => tupKey kv.1) = true then .ok (.own, .lst (kvs.map (·.2))) else .no
    | _ => .no)
  | .dkl, [a] => (match a.2 with
    | .dct kvs => if (kvs.all fun kv => tupKey kv.1) = true then .ok (.own, .lst (kvs.map (·.1))) else .no
    | _ => .no)
  | .mk n _, [] => .ok (.val, .opq n [])
  | .mth _ ks, a :: as => (match a.2 with
    | .opq n cs => (match ks.lookup n with
      | some f => if a.1 = .val ∧ keepOk as = true then (F f (.opq n cs :: as.map (·.2))).bind fun r => .ok (if r.1 = true then .own else .val, r.2) else .no
      | none => .no)
    | _ => .no)
  | .dgt, [a, b, e] => (match a.2 with
    | .dct kvs => if keysT kvs b.2 = true ∧ e.1 = .val then .ok (.val, (dGet kvs b.2).getD e.2) else .no
    | _ => .no)
  | .mkf n _ k, as => if keepOk as = true ∧ as.length = k then .ok (.val, .opq n (as.map (·.2))) else .no
  | .flo _ ks, [a] => (match a.2 with
    | .opq n cs => (match ks.lookup n with
      | some j => (match cs[j]? with | some d => .ok (.val, d) | none => .no)
      | none => .no)
    | _ => .no)
  | .zl3, [a, b, e] => (match a.2, b.2, e.2 with
    | .lst xs, .lst ys, .lst zs => if xs.length ≤ 16777216 then .ok (.own, .lst (zip3D xs ys zs)) else .no
    | _, _, _ => .no)
  | .ctu, [a, b] => (match a.2, b.2 with
    | .tup xs, .tup ys => if xs.length + ys.length ≤ 16777216 then .ok (.val, .tup (xs ++ ys)) else .no
    | _, _ => .no)
  | .stw, [a, b] => (match a.2, b.2 with
    | .str x, .str y => .ok (.val, .bl (y.isPrefixOf x))
    | _, _ => .no)
  | .enw, [a, b] => (match a.2, b.2 with
    | .str x, .str y => .ok (.val, .bl (y.isSuffixOf x))
    | _, _ => .no)
  | .cot, [a, b] => (match a.2, b.2 with
    | .str x, .str [ch] => .ok (.val, .int (x.count ch : Nat))
    | _, _ => .no)
  | .lmu, [a, b] => (match a.2, b.2 with
    | .lst xs, .int j => if a.1 = .own ∧ 0 ≤ j ∧ xs.length * j.toNat ≤ 16777216 ∧ j ≤ 16777216 then .ok (.own, .lst (List.replicate j.toNat xs).flatten) else .no
    | _, _ => .no)
  | .cal ks, a :: as => (match a.2 with
    | .opq k cs => if a.1 = .val ∧ keepOk as = true ∧ ks.contains k = true then (cellF (F k) (as.map (·.2) ++ cs)).bind fun r => .ok (if r.1 = true then .own else .val, r.2) else .no
    | _ => .no)
  | _, _ => .no
/-! lists that are lent: the data of a list of the caller's -/
abbrev LN (k : Nat) (ds : List D) : D := .opq 998 [.int k, .lst ds]
def inn : D → D
  | .opq 998 [.int _, .lst ds] => .lst ds
  | d => d
def isLn : D → Bool
  | .opq _ _ => true
  | _ => false
/-- with these items -/
def rew : D → List D → D
  | .opq 998 [.int k, .lst _], ys => .opq 998 [.int k, .lst ys]
  | _, ys => .lst ys
mutual
/-- what an expression comes to -/
def ev (F : FT) : IE → Ev → Rs (Fl × D)
  | .v i, G => (match G[i]? with | some (some (false, d)) => .ok (.val, d) | _ => .no)
  | .pk i, G => (match G[i]? with | some (some (true, d)) => .ok (.tmp, inn d) | _ => .no)
  | .pv i, G => (match G[i]? with | some (some (b, d)) => (if b = true then .ok (.tmp, inn d) else .ok (.val, d)) | _ => .no)
  | .k d, _ => .ok (.val, d)
  | .gl n, _ => (match F n [] with | .ok (_, d) => .ok (.val, d) | _ => .no)
  | .out, _ => .ok (.val, .non)
  | .b op x y, G => (ev F x G).bind fun a => (ev F y G).bind fun b => binD op a.2 b.2
  | .neg x, G => (ev F x G).bind fun a => (match a.2 with | .int i => .ok (.val, .int (-i)) | _ => .no)
  | .cmp op x y, G => (ev F x G).bind fun a => (ev F y G).bind fun b => (cmpD op a.2 b.2).bind fun r => .ok (.val, .bl r)
  | .and_ x y, G => (asB (ev F x G)).bind fun a => (if a = true then ev F y G else .ok (.val, .bl false))
  | .or_ x y, G => (asB (ev F x G)).bind fun a => (if a = true then .ok (.val, .bl true) else ev F y G)
  | .not_ x, G => (asB (ev F x G)).bind fun a => .ok (.val, .bl (!a))
  | .ife t x y, G => (asB (ev F t G)).bind fun a => (if a = true then ev F x G else ev F y G)
  | .tup as, G => (evs F as G).bind fun ds => (if keepOk ds = true ∧ ds.length ≤ 1000 then .ok (.val, .tup (ds.map (·.2))) else .no)
  | .lst as, G => (evs F as G).bind fun ds => (if keepOk ds = true ∧ ds.length ≤ 1000 then .ok (.own, .lst (ds.map (·.2))) else .no)
  | .dct ks vs, G => (evs F ks G).bind fun ds => (evs F vs G).bind fun es => (match putAll ds es [] with | some kvs => .ok (.own, .dct kvs) | none => .no)
  | .ix x i, G => (ev F x G).bind fun a => (ev F i G).bind fun b => (ixD a.2 b.2).bind fun d => .ok (.val, d)
  | .sl x lo hi, G => (ev F x G).bind fun a => (prt (isOut lo) (ev F lo G)).bind fun l => (prt (isOut hi) (ev F hi G)).bind fun h => slD a.2 l h
  | .rv x, G => (ev F x G).bind fun a => rvD a.2
  | .lset x, G => (ev F x G).bind fun a => lsetD a.2
  | .lix x y, G => (ev F x G).bind fun a => (match a.2 with | .lst ys => (ev F y G).bind fun b => lixD ys b.2 | _ => .no)
  | .bi f as, G => (evs F as G).bind fun ds => biD f (ds.map (·.2))
  | .me m o as, G => (ev F o G).bind fun a => (if recvOk a.2 = true then (evs F as G).bind fun ds => meD m a.2 (ds.map (·.2)) else .no)
  | .call n as, G => (evs F as G).bind fun ds => (if keepOk ds = true then (F n (ds.map (·.2))).bind fun r => .ok (if r.1 = true then .own else .val, r.2) else (F n (ds.map (·.2))).quiet.bind fun r => if lendOk r = true then .ok (if r.1 = true then .own else .val, r.2) else .no)
  | .comp tg it t e, G => (evI F it G).bind fun ds => (if (tgSlots tg).all (freeAt G) = true ∧ ds.length < sizeLine then ((compGo (fun G' => asB (ev F t G')) (fun G' => ev F e G') tg (forget (tgSlots tg) G) ds).quiet).bind fun rs => .ok (.own, .lst rs) else .no)
  | .xt t as, G => (evs F as G).bind (xtD F t)
def evs (F : FT) : IEs → Ev → Rs (List (Fl × D))
  | .nil, _ => .ok []
  | .cons x as, G => (ev F x G).bind fun a => (evs F as G).bind fun ds => .ok (a :: ds)
/-- the items that are walked -/
def evI (F : FT) : II → Ev → Rs (List D)
  | .ex x, G => (ev F x G).bind fun a => (if a.1 = .tmp then .no else match itemsD a.2 with | some ds => .ok ds | none => .no)
  | .rng1 x, G => (ev F x G).bind fun a => (match a.2 with | .int j => (if smallI j = true then .ok (rangeD 0 j) else .no) | _ => .no)
  | .rng2 x y, G => (ev F x G).bind fun a => (ev F y G).bind fun b => (match a.2, b.2 with | .int i, .int j => (if (smallI i && smallI j) = true then .ok (rangeD i j) else .no) | _, _ => .no)
  | .zip2 x y, G => (ev F x G).bind fun a => (ev F y G).bind fun b => (if a.1 = .tmp ∨ b.1 = .tmp then .no else match itemsD a.2, itemsD b.2 with | some ds, some es => .ok (zipD ds es) | _, _ => .no)
  | .rev x, G => (ev F x G).bind fun a => (if a.1 = .tmp then .no else match a.2 with | .lst ds => .ok ds.reverse | _ => .no)
  | .xi w as, G => (evs F as G).bind (wkD w)
end
/-! ### statements -/
inductive IS where
  | nil | seq (s r : IS)
  | set (i : Nat) (e : IE) | own (i : Nat) (e : IE) | mv (i : Nat) (e : IE) | retd (i : Nat) | frz (i : Nat) | fgt (is : List Nat)
  | unp (is : List Nat) (e : IE) | aug (i : Nat) (op : Bop) (e : IE)
  | app (i : Nat) (e : IE) | put (i : Nat) (k e : IE) | ins (i : Nat) (k e : IE) | do_ (e : IE)
  | if_ (t : IE) (a b : IS) | whl (t : IE) (b : IS) | for_ (tg : Tg) (it : II) (b : IS)
  | ret (e : IE) | retp (i : Nat) | retN | brk | cnt | pass | nev | rse (c : Nat) (x : Str)
  | xs (t : YT) (as : IEs) | try_ (b : IS) (y : Str) (ys ns : List Nat) (h : Hd)
inductive Out where
  | no | nx (G : Ev) | rt (o : Bool) (d : D) | bk (G : Ev) | ct (G : Ev) | ex (G : Ev) (c : Nat) (fs : List D)
def Rs.out {α : Type} (G : Ev) (k : α → Out) : Rs α → Out
  | .no => .no
  | .ok a => k a
  | .ex c fs => .ex G c fs
@[simp] theorem Rs.out_no {α : Type} (G : Ev) (k : α → Out) : (Rs.no : Rs α).out G k = .no := (rfl)
@[simp] theorem Rs.out_ok {α : Type} (G : Ev) (k : α → Out) (a : α) : (Rs.ok a).out G k = k a := (rfl)
@[simp] theorem Rs.out_ex {α : Type} (G : Ev) (k : α → Out) (c : Nat) (fs : List D) : (Rs.ex c fs : Rs α).out G k = .ex G c fs := (rfl)
/-- a while's turns, at most n of them -/
def loopW (t : Ev → Rs Bool) (b : Ev → Out) : Nat → Ev → Out
  | 0, _ => .no
  | n + 1, G => (t G).out G fun x => if x = true then (match b G with
      | .nx G' => loopW t b n G'
      | .ct G' => loopW t b n G'
      | .bk G' => .nx G'
      | o => o) else .nx G
def loopF (tg : Tg) (b : Ev → Out) : List D → Ev → Out
  | [], G => .nx G
  | d :: ds, G => match bindT tg d G with
    | none => .no
    | some G' => (match b G' with
      | .nx G2 => loopF tg b ds G2
      | .ct G2 => loopF tg b ds G2
      | .bk G2 => .nx G2
      | o => o)
/-! own lists, changed -/
/-- N[i].pop() -/
def popD (i : Nat) (G : Ev) (k : Ev → D → Out) : Out := match G[i]? with
  | some (some (true, d)) => (match inn d with
    | .lst xs => (match xs.getLast? with | some x => k (G.set i (some (true, rew d xs.dropLast))) x | none => .no)
    | _ => .no)
  | _ => .no
def valsAt (G : Ev) : List Nat → Option (List D)
  | [] => some []
  | i :: is => match G[i]?, valsAt G is with
    | some (some (false, d)), some ds => some (d :: ds)
    | _, _ => none
/-- a call that hands a thing back -/
def callP (F : FT) (f : Nat) (as : List (Fl × D)) (ps : Option (List D)) (k : D → Out) : Out := match ps with
  | some ds => if (as.all fun x => decide (x.1 = .val)) = true then (match F f (as.map (·.2) ++ ds) with | .ok (false, r) => k r | _ => .no) else .no
  | none => .no
/-- d.setdefault(a, b) != c -/
def sdfO (i : Nat) (G : Ev) (a b c : Fl × D) : Out := match G[i]? with
  | some (some (true, .dct kvs)) => (if keysL kvs a.2 = true ∧ kvs.length < sizeLine then (match (dGet kvs a.2).getD b.2, b.2, c.2 with
    | .int v, .int _, .int w => if v = w then .nx (G.set i (some (true, .dct (if (dGet kvs a.2).isSome = true then kvs else dPut kvs a.2 b.2)))) else .rt false (.bl false)
    | _, _, _ => .no) else .no)
  | _ => .no
def sdfD (i : Nat) (g : Bool) (G : Ev) : List (Fl × D) → Out
  | [a, b, c] => if g = true then .no else sdfO i G a b c
  | [p, q, a, b, c] => if g = true then (match cmpD .ne p.2 q.2 with | .ok true => .rt false (.bl false) | .ok false => sdfO i G a b c | _ => .no) else .no
  | _ => .no
/-- what is handed to a call that may change lists; k: how many lists before -/
def lclArgs (G : Ev) : List Ar → List (Fl × D) → Nat → Option (List D)
  | [], [], _ => some []
  | .ln i :: as, ds, k => if as.contains (.ln i) = true then none else (match G[i]? with
    | some (some (true, d)) => (match inn d with | .lst xs => (lclArgs G as ds (k + 1)).map (LN k xs :: ·) | _ => none)
    | _ => none)
  | .pl :: as, d :: ds, k => if d.1 = .val ∧ noL d.2 = true then (lclArgs G as ds k).map (d.2 :: ·) else none
  | .tm :: as, d :: ds, k => if as.contains .tm = true then none else (match d.1, d.2 with | .own, .lst xs => (lclArgs G as ds (k + 1)).map (LN k xs :: ·) | _, _ => none)
  | _, _, _ => none
/-- the lists as they are then -/
def lclSet : List Ar → List D → Ev → Option Ev
  | [], [], G => some G
  | .ln i :: as, .lst ys :: qs, G => (match G[i]? with
    | some (some (true, d)) => lclSet as qs (G.set i (some (true, rew d ys)))
    | _ => none)
  | .pl :: as, qs, G => lclSet as qs G
  | .tm :: as, .lst _ :: qs, G => lclSet as qs G
  | _, _, _ => none
def lclK (k : Ev → D → Out) (G : Ev) (as : List Ar) : Rs (Bool × D) → Out
  | .ok (false, .tup (r :: qs)) => (match lclSet as qs G with
    | some G' => k G' r
    | none => .no)
  | _ => .no
def lclJ (j : Option Nat) (G : Ev) (r : D) : Out := match j with | some j => .nx (G.set j (some (false, r))) | none => .nx G
def lclU (is : List Nat) (G : Ev) (r : D) : Out := match bindT (.tup is) r G with | some G' => .nx G' | none => .no
/-- what a further statement does -/
def ytD (F : FT) : YT → Ev → List (Fl × D) → Out
  | .rsx c _ _, G, ds => if keepOk ds = true then .ex G c (ds.map (·.2)).reverse else .no
  | .clr i, G, [] => (match G[i]? with | some (some (true, .lst _)) => .nx (G.set i (some (true, .lst []))) | _ => .no)
  | .unl is, G, [a] => (match a.2 with | .lst ds => if is.length = ds.length ∧ a.1 ≠ .tmp then .nx (setAll is ds G) else .no | _ => .no)
  | .sdf i g, G, ds => sdfD i g G ds
  | .apl i, G, [a] => (match G[i]? with
    | some (some (true, d)) => (match inn d with | .lst xs => if a.1 ≠ .tmp ∧ xs.length < sizeLine then .nx (G.set i (some (true, rew d (xs ++ [a.2])))) else .no | _ => .no)
    | _ => .no)
  | .pop i j, G, [] => popD i G fun G' x => .nx (G'.set j (some (false, x)))
  | .popd i, G, [] => popD i G fun G' _ => .nx G'
  | .apf i f ps, G, ds => popD i G fun G' x => callP F f (ds ++ [(.val, x)]) (valsAt G ps) fun r => (match G'[i]? with
    | some (some (true, d)) => (match inn d with | .lst xs => if xs.length < sizeLine then .nx (G'.set i (some (true, rew d (xs ++ [r])))) else .no | _ => .no)
    | _ => .no)
  | .stf j i f ps, G, ds => popD i G fun G' x => callP F f (ds ++ [(.val, x)]) (valsAt G ps) fun r => .nx (G'.set j (some (false, r)))
  | .lcl f as j, G, ds => (match lclArgs G as ds 0 with
    | some ls => lclK (lclJ j) G as (F f ls)
    | none => .no)
  | .lcu f as is, G, ds => (match lclArgs G as ds 0 with
    | some ls => lclK (lclU is) G as (F f ls)
    | none => .no)
  | _, _, _ => .no
/-- an own or lent list stands there -/
def ownLs (i : Nat) (G : Ev) : Bool := match G[i]? with
  | some (some (true, d)) => (match inn d with | .lst _ => true | _ => false)
  | _ => false
/-- what must stand before the parts are reckoned -/
def ytPre : YT → Ev → Bool
  | .lcl _ as _, G => as.all fun a => match a with
    | .ln i => ownLs i G
    | _ => true
  | .lcu _ as _, G => as.all fun a => match a with
    | .ln i => ownLs i G
    | _ => true
  | .apl i, G => ownLs i G
  | .apf i _ _, G => ownLs i G
  | .stf _ i _ _, G => ownLs i G
  | _, _ => true
/-- the last part -/
def lastE : IEs → Option IE
  | .nil => none
  | .cons x .nil => some x
  | .cons _ (.cons y as) => lastE (.cons y as)
/-- the last part is the same whole number without N[i] -/
def sameN (F : FT) (i : Nat) (G : Ev) : Option IE → Bool
  | some x => (match ev F x G, ev F x (G.set i none) with
    | .ok (_, .int a), .ok (_, .int b) => decide (a = b)
    | _, _ => false)
  | none => false
/-- what must stand of the parts -/
def ytPo (F : FT) : YT → IEs → Ev → Bool
  | .sdf i _, as, G => sameN F i G (lastE as) && (match evs F as G with | .ok _ => true | _ => false)
  | _, _, _ => true
/-- behind an except clause -/
def hdG : Hd → Nat → List D → Ev → Ev
  | .as i j, c, fs, G => ((G.set i (some (false, .opq c fs))).set j (some (false, .opq c fs))).set i none
  | .cst j d, _, _, G => G.set j (some (false, d))
/-- a try's end by its body's -/
def tryO (ys ns : List Nat) (h : Hd) : Out → Out
  | .ex G c fs => if ys.contains c = true then .nx (hdG h c fs G) else if ns.contains c = true then .ex G c fs else .no
  | o => o
def exec (F : FT) (n : Nat) : IS → Ev → Out
  | .nil, G => .nx G
  | .seq s r, G => (match exec F n s G with
    | .nx G' => exec F n r G'
    | o => o)
  | .set i e, G => (ev F e G).out G fun r => if r.1 = .tmp then .no else .nx (G.set i (some (false, r.2)))
  | .own i e, G => (ev F e G).out G fun r => if r.1 = .own then .nx (G.set i (some (true, r.2))) else .no
  | .mv i e, G => (ev F e G).out G fun r => if r.1 = .tmp then .no else .nx (G.set i (some (decide (r.1 = .own), r.2)))
  | .retd i, G => (match G[i]? with | some (some (b, d)) => (if b = true ∧ isLn d = true then .no else .rt b d) | _ => .no)
  | .frz i, G => (match G[i]? with | some (some (true, d)) => (if isLn d = true then .no else .nx (G.set i (some (false, d)))) | _ => .no)
  | .fgt is, G => .nx (forget is G)
  | .unp is e, G => (ev F e G).out G fun r => if r.1 = .tmp then .no else (match bindT (.tup is) r.2 G with | some G' => .nx G' | none => .no)
  | .aug i op e, G => (match G[i]? with
    | some (some (false, .int x)) => (ev F e G).out G fun r => (match r.2 with
      | .int y => (match op with | .add => .nx (G.set i (some (false, .int (x + y)))) | .sub => .nx (G.set i (some (false, .int (x - y)))) | _ => .no)
      | _ => .no)
    | _ => .no)
  | .app i e, G => (match G[i]? with
    | some (some (true, .lst xs)) => (ev F e G).out G fun r => if r.1 ≠ .tmp ∧ xs.length < sizeLine then .nx (G.set i (some (true, .lst (xs ++ [r.2])))) else .no
    | _ => .no)
  | .put i k e, G => (match G[i]? with
    | some (some (true, .lst xs)) => (ev F e G).out G fun r => (ev F k G).out G fun q => (match q.2 with
      | .int j => (match ixN xs.length j with | some m => (if r.1 = .tmp then .no else .nx (G.set i (some (true, .lst (xs.set m r.2))))) | none => .no)
      | _ => .no)
    | some (some (true, .dct kvs)) => (ev F e G).out G fun r => (ev F k G).out G fun q => (if r.1 ≠ .tmp ∧ keysOk kvs q.2 = true ∧ kvs.length < sizeLine then .nx (G.set i (some (true, .dct (dPut kvs q.2 r.2)))) else .no)
    | _ => .no)
  | .ins i k e, G => (match G[i]? with
    | some (some (true, .lst xs)) => (ev F k G).out G fun q => (ev F e G).out G fun r => (match q.2 with
      | .int j => if r.1 ≠ .tmp ∧ 0 ≤ j ∧ j < 9223372036854775808 ∧ xs.length < sizeLine then .nx (G.set i (some (true, .lst (xs.take j.toNat ++ [r.2] ++ xs.drop j.toNat)))) else .no
      | _ => .no)
    | _ => .no)
  | .do_ e, G => (ev F e G).out G fun _ => .nx G
  | .if_ t a b, G => (asB (ev F t G)).out G fun x => if x = true then exec F n a G else exec F n b G
  | .whl t b, G => loopW (fun G' => asB (ev F t G')) (fun G' => exec F n b G') n G
  | .for_ tg it b, G => (evI F it G).out G fun ds => loopF tg (fun G' => exec F n b G') ds G
  | .ret e, G => (ev F e G).out G fun r => if r.1 = .tmp then .no else .rt (decide (r.1 = .own)) r.2
  | .retp i, G => (match G[i]? with | some (some (true, d)) => (if isLn d = true then .no else .rt true d) | _ => .no)
  | .retN, _ => .rt false .non
  | .brk, G => .bk G
  | .cnt, G => .ct G
  | .pass, G => .nx G
  | .nev, _ => .no
  | .rse c _, G => .ex G c []
  | .xs t as, G => if (ytPo F t as G && ytPre t G) = true then (evs F as G).out G (ytD F t G) else .no
  | .try_ b _ ys ns h, G => tryO ys ns h (exec F n b G)
def startG (N : Nat) (ds : List D) : Ev := ds.map (fun d => some (false, d)) ++ List.replicate (N - ds.length) none
/-- a def's body, run -/
def run (F : FT) (n : Nat) (N : Nat) (b : IS) (ds : List D) : Rs (Bool × D) :=
  match exec F n b (startG N ds) with
  | .nx _ => .ok (false, .non)
  | .rt o d => .ok (o, d)
  | .ex _ c fs => .ex c fs
  | _ => .no
end RA
/-! RA3: the state of a frame as data; operations. -/
namespace RA
open PySem PySem.Spec PyProof.Rows L2
variable [Tabs]
/-- at a stands, to be written, what d tells; its parts do not lean on Z -/
inductive OwnAt (c : Cfg) (Z : Addr → Prop) (H : Hp) : D → Addr → Prop
  | lst {a : Addr} {ds : List D} {vs : List V} : H a = some (.lst vs) → Reps c Z H ds vs → OwnAt c Z H (.lst ds) a
  | dctK {a : Addr} {us : List (Leaf × Value)} {kvs : List (D × D)} : H a = some (.ext fun h => us.length ≤ sizeLine ∧ (a == sysModules) = false ∧ h.DictOf (kindX c.P c.w (noBl kvs)) a us) → RepK c Z H kvs us → OwnAt c Z H (.dct kvs) a
  | dctT {a : Addr} {us : List (NestedKey × Addr × Value)} {kvs : List (D × D)} :
      H a = some (.ext fun h => us.length ≤ sizeLine ∧ (a == sysModules) = false ∧ ∃ o es ep, h.get? a = some o ∧ o.ExactDict ∧ o.data = .dict es ep ∧ es.toList = us.map (entryOfKey (nestedKind c.P c.w)) ∧ (us.map (·.1)).Nodup) → RepT c Z H kvs us → OwnAt c Z H (.dct kvs) a
section
variable {c : Cfg} {Z Z' : Addr → Prop} {H H' : Hp} {d : D} {a : Addr} {v : V}
theorem OwnAt.there (h : OwnAt c Z H d a) : H a ≠ none := by
  cases h with
  | lst h _ => rw [h]; intro z; cases z
  | dctK h _ => rw [h]; intro z; cases z
  | dctT h _ => rw [h]; intro z; cases z
theorem OwnAt.some (h : OwnAt c Z H d a) : ∃ o, H a = some o ∧ OwnK o := by
  cases h with
  | lst h _ => exact ⟨_, h, trivial⟩
  | dctK h _ => exact ⟨_, h, trivial⟩
  | dctT h _ => exact ⟨_, h, trivial⟩
theorem OwnK.noT {o : HO} (h : OwnK o) : NoT o := by
  cases o <;> first | exact trivial | exact h.elim
/-- all else stays, and it itself -/
theorem OwnAt.mono (h : OwnAt c Z H d a) (e : Ext Z H H') (k : H' a = H a) : OwnAt c Z H' d a := by
  cases h with
  | lst h r => exact .lst (k.trans h) (Reps.mono e r)
  | dctK h r => exact .dctK (k.trans h) (RepK.mono e r)
  | dctT h r => exact .dctT (k.trans h) (RepT.mono e r)
theorem OwnAt.grow (h : OwnAt c Z H d a) (g : ∀ b, Z' b → Z b ∨ H b = none) : OwnAt c Z' H d a := by
  cases h with
  | lst h r => exact .lst h (Reps.grow g r)
  | dctK h r => exact .dctK h (RepK.grow g r)
  | dctT h r => exact .dctT h (RepT.grow g r)
theorem Same.at {H H' : Hp} (s : Same H H') {a : Addr} {o : HO} (h : H a = some o) (n : NoT o) : H' a = H a := by
  rw [s.keep a o h n, h]
theorem OwnAt.same (h : OwnAt c Z H d a) (s : Same H H') : OwnAt c Z H' d a := h.mono (Same.ext s) (let ⟨_, e, k⟩ := h.some; Same.at s e k.noT)
/-- given away -/
theorem OwnAt.rep (h : OwnAt c Z H d a) (hz : ¬ Z a) : Rep c Z H d (.ref a) := by
  cases h with
  | lst h r => exact .lst (.of h hz) r
  | dctK h r => exact .dctK h hz r
  | dctT h r => exact .dctT h hz r
theorem Rep.same (h : Rep c Z H d v) (s : Same H H') : Rep c Z H' d v := h.mono (Same.ext s)
theorem Reps.same {ds : List D} {vs : List V} (h : Reps c Z H ds vs) (s : Same H H') : Reps c Z H' ds vs := h.mono (Same.ext s)
end
/-- an evaluated thing: from the heap H to H' -/
def RepF (c : Cfg) (Z : Addr → Prop) (H H' : Hp) (x : Fl × D) (v : V) : Prop := match x.1 with
  | .val => Rep c Z H' x.2 v
  | .tmp => ∃ a, v = .ref a ∧ OwnAt c Z H' x.2 a
  | .own => ∃ a, v = .ref a ∧ H a = none ∧ OwnAt c (fun b => Z b ∨ b = a) H' x.2 a
inductive RepsF (c : Cfg) (Z : Addr → Prop) (H H' : Hp) : List (Fl × D) → List V → Prop
  | nil : RepsF c Z H H' [] []
  | cons {x : Fl × D} {v : V} {xs : List (Fl × D)} {vs : List V} : RepF c Z H H' x v → RepsF c Z H H' xs vs → RepsF c Z H H' (x :: xs) (v :: vs)
section
variable {c : Cfg} {Z : Addr → Prop} {H0 H H' H2 : Hp} {x : Fl × D} {v : V}
theorem RepF.mono (h : RepF c Z H H' x v) (s : Same H' H2) : RepF c Z H H2 x v := by
  obtain ⟨f, d⟩ := x
  cases f with
  | val => exact Rep.same h s
  | tmp => obtain ⟨a, e, r⟩ := h; exact ⟨a, e, r.same s⟩
  | own => obtain ⟨a, e, n, r⟩ := h; exact ⟨a, e, n, r.same s⟩
theorem RepF.back (h : RepF c Z H H' x v) (s : Same H0 H) : RepF c Z H0 H' x v := by
  obtain ⟨f, d⟩ := x
  cases f with
  | val => exact h
  | tmp => exact h
  | own => obtain ⟨a, e, n, r⟩ := h; exact ⟨a, e, s.free n, r⟩
theorem RepsF.mono {xs : List (Fl × D)} {vs : List V} (h : RepsF c Z H H' xs vs) (s : Same H' H2) : RepsF c Z H H2 xs vs := by
  induction h with
  | nil => exact .nil
  | cons r _ ih => exact .cons (r.mono s) ih
theorem RepsF.back {xs : List (Fl × D)} {vs : List V} (h : RepsF c Z H H' xs vs) (s : Same H0 H) : RepsF c Z H0 H' xs vs := by
  induction h with
  | nil => exact .nil
  | cons r _ ih => exact .cons (r.back s) ih
/-- what is kept -/
theorem RepF.keep (h : RepF c Z H H' x v) (hf : x.1 ≠ .tmp) (ht : ∀ a, Z a → H a ≠ none) : Rep c Z H' x.2 v := by
  obtain ⟨f, d⟩ := x
  cases f with
  | val => exact h
  | tmp => exact absurd rfl hf
  | own =>
    obtain ⟨a, rfl, n, r⟩ := h
    exact (r.grow (Z' := Z) fun b z => .inl (.inl z)).rep fun z => ht a z n
theorem RepsF.keep {xs : List (Fl × D)} {vs : List V} (h : RepsF c Z H H' xs vs) (hf : keepOk xs = true) (ht : ∀ a, Z a → H a ≠ none) : Reps c Z H' (xs.map (·.2)) vs := by
  induction h with
  | nil => exact .nil
  | cons r t ih =>
    simp only [keepOk, List.all_cons, Bool.and_eq_true, decide_eq_true_eq] at hf
    exact .cons (r.keep hf.1 ht) (ih (by simpa [keepOk] using hf.2))
/-- a thing that is no list and no dict -/
theorem RepF.low {d : D} {f : Fl} (h : RepF c Z H H' (f, d) v) (hd : ∀ a (Z : Addr → Prop), ¬ OwnAt c Z H' d a) : Rep c Z H' d v := by
  cases f with
  | val => exact h
  | tmp => obtain ⟨a, _, r⟩ := h; exact (hd _ _ r).elim
  | own => obtain ⟨a, _, _, r⟩ := h; exact (hd _ _ r).elim
theorem RepF.int {f : Fl} {i : Int} (h : RepF c Z H H' (f, .int i) v) : v = .int i := by
  cases h.low (fun a Z z => by cases z); rfl
theorem RepF.bl {f : Fl} {i : Bool} (h : RepF c Z H H' (f, .bl i) v) : v = .bl i := by
  cases h.low (fun a Z z => by cases z); rfl
theorem RepF.non {f : Fl} (h : RepF c Z H H' (f, .non) v) : v = .non := by
  cases h.low (fun a Z z => by cases z); rfl
theorem RepF.str {f : Fl} {s : List Nat} (h : RepF c Z H H' (f, .str s) v) : v = .str ⟨⟨s⟩⟩ := by
  cases h.low (fun a Z z => by cases z); rfl
theorem RepF.tup {f : Fl} {ds : List D} (h : RepF c Z H H' (f, .tup ds) v) : ∃ a vs, v = .ref a ∧ TupAt c.K Z H' a vs ∧ Reps c Z H' ds vs := by
  cases h.low (fun a Z z => by cases z) with
  | tup t r => exact ⟨_, _, rfl, t, r⟩
/-- a list, own or not: what it holds -/
theorem RepF.lst {f : Fl} {ds : List D} (h : RepF c Z H H' (f, .lst ds) v) : ∃ a vs, v = .ref a ∧ SqL c.K H' a vs ∧ Reps c Z H' ds vs := by
  cases f with
  | val => cases h with | lst t r => exact ⟨_, _, rfl, t.sq, r⟩
  | tmp => obtain ⟨a, e, r⟩ := h; cases r with | lst t r => exact ⟨a, _, e, .of t, r⟩
  | own => obtain ⟨a, e, _, r⟩ := h; cases r with | lst t r => exact ⟨a, _, e, .of t, r.less fun b z => .inl z⟩
theorem RepF.mkI {i : Int} : RepF c Z H H' (.val, .int i) (.int i) := Rep.int i
theorem RepF.mkS {s : List Nat} : RepF c Z H H' (.val, .str s) (.str ⟨⟨s⟩⟩) := Rep.str s
theorem RepF.mkB {b : Bool} : RepF c Z H H' (.val, .bl b) (.bl b) := Rep.bl b
theorem RepF.mkN : RepF c Z H H' (.val, .non) .non := Rep.non
/-- it may be made anew from the parts -/
theorem RepF.val {d : D} (h : Rep c Z H' d v) : RepF c Z H H' (.val, d) v := h
theorem RepF.newL {a : Addr} {ds : List D} {vs : List V} (n : H a = none) (h : H' a = some (.lst vs)) (r : Reps c (fun b => Z b ∨ b = a) H' ds vs) : RepF c Z H H' (.own, .lst ds) (.ref a) := ⟨a, rfl, n, .lst h r⟩
end
/-- a new list from parts that stood before -/
theorem newL {c : Cfg} {Z : Addr → Prop} {H0 H : Hp} {p : Addr} {ds : List D} {vs : List V} (s : Same H0 H) (hp : H p = none) (r : Reps c Z H ds vs) : Same H (upd H p (.lst vs)) ∧ RepF c Z H0 (upd H p (.lst vs)) (.own, .lst ds) (.ref p) := by
  refine ⟨Same.new hp, RepF.newL (s.free hp) upd_same ?_⟩
  exact (r.grow fun b z => z.elim .inl fun e => .inr (e ▸ hp)).same (Same.new hp)
theorem newT {c : Cfg} {Z : Addr → Prop} {H0 H : Hp} {p : Addr} {ds : List D} {vs : List V} (hz : ∀ a, Z a → H0 a ≠ none) (s : Same H0 H) (hp : H p = none) (r : Reps c Z H ds vs) : Same H (upd H p (.tup vs)) ∧ RepF c Z H0 (upd H p (.tup vs)) (.val, .tup ds) (.ref p) := by
  refine ⟨Same.new hp, ?_⟩
  exact Rep.tup (.of upd_same fun z => hz p z (s.free hp)) (r.same (Same.new hp))
/-! ### the state -/
/-- where the lists stand that are lent -/
class LentT where
  ad : Nat → Addr
variable [LentT]
/-- one's own, or lent -/
def OwnL (c : Cfg) (Z : Addr → Prop) (H : Hp) (d : D) (a : Addr) : Prop := OwnAt c Z H d a ∨ ∃ (k : Nat) (ds : List D), d = LN k ds ∧ LentT.ad k = a ∧ OwnAt c Z H (.lst ds) a
section
variable {c : Cfg} {Z Z' : Addr → Prop} {H H' : Hp} {d : D} {a : Addr}
theorem OwnL.there (h : OwnL c Z H d a) : H a ≠ none := h.elim OwnAt.there fun ⟨_, _, _, _, h⟩ => h.there
theorem OwnL.some (h : OwnL c Z H d a) : ∃ o, H a = some o ∧ OwnK o := h.elim OwnAt.some fun ⟨_, _, _, _, h⟩ => h.some
theorem OwnL.mono (h : OwnL c Z H d a) (e : Ext Z H H') (k : H' a = H a) : OwnL c Z H' d a := h.imp (fun h => h.mono e k) fun ⟨j, ds, h1, h2, h⟩ => ⟨j, ds, h1, h2, h.mono e k⟩
theorem OwnL.grow (h : OwnL c Z H d a) (g : ∀ b, Z' b → Z b ∨ H b = none) : OwnL c Z' H d a := h.imp (fun h => h.grow g) fun ⟨j, ds, h1, h2, h⟩ => ⟨j, ds, h1, h2, h.grow g⟩
theorem OwnL.same (h : OwnL c Z H d a) (s : Same H H') : OwnL c Z H' d a := h.imp (fun h => h.same s) fun ⟨j, ds, h1, h2, h⟩ => ⟨j, ds, h1, h2, h.same s⟩
theorem OwnAt.inn (h : OwnAt c Z H d a) : inn d = d := by cases h <;> rfl
/-- not lent -/
theorem OwnL.out (h : OwnL c Z H d a) (e : isLn d = false) : OwnAt c Z H d a := h.elim id fun ⟨_, _, h1, _, _⟩ => by rw [h1] at e; cases e
theorem OwnL.inn (h : OwnL c Z H d a) : OwnAt c Z H (inn d) a := by
  rcases h with h | ⟨k, ds, rfl, _, h⟩
  · rw [h.inn]; exact h
  · exact h
end
def ownedAt (G : Ev) (σ : L2.St) (i : Nat) (a : Addr) : Prop := ∃ d, G[i]? = some (some (true, d)) ∧ σ[i]? = some (some (.ref a))
def Owned (G : Ev) (σ : L2.St) (a : Addr) : Prop := ∃ i, ownedAt G σ i a
def Zof (B : Addr → Prop) (G : Ev) (σ : L2.St) (a : Addr) : Prop := B a ∨ Owned G σ a
structure StOk (c : Cfg) (B : Addr → Prop) (G : Ev) (σ : L2.St) (H : Hp) : Prop where
  len : G.length = σ.length
  tr : ∀ a, B a → H a ≠ none
  tab : TabsOk H
  apart : ∀ a, Owned G σ a → ¬ B a
  uniq : ∀ i j a, ownedAt G σ i a → ownedAt G σ j a → i = j
  val : ∀ (i : Nat) (d : D), G[i]? = some (some (false, d)) → ∃ v, σ[i]? = some (some v) ∧ Rep c (Zof B G σ) H d v
  own : ∀ (i : Nat) (d : D), G[i]? = some (some (true, d)) → ∃ a, σ[i]? = some (some (.ref a)) ∧ OwnL c (Zof B G σ) H d a
section
variable {c : Cfg} {B : Addr → Prop} {G : Ev} {σ : L2.St} {H H' : Hp}
theorem StOk.same (S : StOk c B G σ H) (s : Same H H') : StOk c B G σ H' :=
  ⟨S.len, fun a h => s.there a (S.tr a h), s.tab S.tab, S.apart, S.uniq, fun i d e => let ⟨v, h1, h2⟩ := S.val i d e; ⟨v, h1, h2.same s⟩, fun i d e => let ⟨a, h1, h2⟩ := S.own i d e; ⟨a, h1, h2.same s⟩⟩
theorem StOk.ztr (S : StOk c B G σ H) : ∀ a, Zof B G σ a → H a ≠ none := fun a h => by
  rcases h with h | ⟨i, d, h1, h2⟩
  · exact S.tr a h
  · obtain ⟨b, h3, h4⟩ := S.own i d h1
    have e : a = b := by rw [h2] at h3; injection h3 with h3; injection h3 with h3; injection h3
    rw [e]; exact h4.there
end
/-! ### readings -/
/-- an error as data -/
def ExcAt (c : Cfg) (B : Addr → Prop) (H : Hp) (x : Nat) (fs : List D) (cls : Value) (dd : Option Addr) : Prop :=
  cls = .ref (c.ecls x) ∧ ((fs = [] ∧ dd = none) ∨ ∃ d vs, dd = some d ∧ ¬ B d ∧ H d = some (.xd ((c.enames x).zip vs)) ∧ Reps c B H fs vs)
def ResE (c : Cfg) (B Z : Addr → Prop) (W : WX) (σ : L2.St) (H : Hp) (r : Rs (Fl × D)) (Q : VK) : Prop := match r with
  | .no => False
  | .ok x => ∀ v H', Same H H' → RepF c Z H H' x v → Q v H'
  | .ex x fs => ∀ cls dd H', Same H H' → ExcAt c Z H' x fs cls dd → W cls dd σ H'
def ResA (c : Cfg) (B Z : Addr → Prop) (W : WX) (σ : L2.St) (H : Hp) (r : Rs (List (Fl × D))) (Q : List V → Hp → Prop) : Prop := match r with
  | .no => False
  | .ok xs => ∀ vs H', Same H H' → RepsF c Z H H' xs vs → Q vs H'
  | .ex x fs => ∀ cls dd H', Same H H' → ExcAt c Z H' x fs cls dd → W cls dd σ H'
def ResB (c : Cfg) (B Z : Addr → Prop) (W : WX) (σ : L2.St) (H : Hp) (r : Rs Bool) (Q : Bool → Hp → Prop) : Prop := match r with
  | .no => False
  | .ok b => ∀ H', Same H H' → Q b H'
  | .ex x fs => ∀ cls dd H', Same H H' → ExcAt c Z H' x fs cls dd → W cls dd σ H'
def tE (c : Cfg) (B : Addr → Prop) (W : WX) (G : Ev) (r : Rs (Fl × D)) : TE := fun σ H Q => StOk c B G σ H ∧ ResE c B (Zof B G σ) W σ H r Q
def tA (c : Cfg) (B : Addr → Prop) (W : WX) (G : Ev) (r : Rs (List (Fl × D))) : TA := fun σ H Q => StOk c B G σ H ∧ ResA c B (Zof B G σ) W σ H r Q
def tT (c : Cfg) (B : Addr → Prop) (W : WX) (G : Ev) (r : Rs Bool) : TT := fun σ H Q => StOk c B G σ H ∧ ResB c B (Zof B G σ) W σ H r Q
theorem _root_.L2.PE.weak {X : Cx} {e : Expr} {t t' : TE} (h : PE X e t) (k : ∀ σ H Q, t' σ H Q → t σ H Q) : PE X e t' := ⟨fun pins s σ H Q I q => h.run pins s σ H Q I (k σ H Q q)⟩
theorem _root_.L2.PT.weak {X : Cx} {e : Expr} {t t' : TT} (h : PT X e t) (k : ∀ σ H Q, t' σ H Q → t σ H Q) : PT X e t' := ⟨fun pins s σ H Q I q => h.run pins s σ H Q I (k σ H Q q)⟩
theorem _root_.L2.PA.weak {X : Cx} {e : List Expr} {t t' : TA} (h : PA X e t) (k : ∀ σ H Q, t' σ H Q → t σ H Q) : PA X e t' := ⟨fun pos pins s σ H Q I q => h.run pos pins s σ H Q I (k σ H Q q)⟩
theorem _root_.L2.PS.weak {X : Cx} {e : Stmt} {t t' : TS} (h : PS X e t) (k : ∀ D σ H, t' D σ H → t D σ H) : PS X e t' := ⟨fun pins s σ H D I q => h.run pins s σ H D I (k D σ H q)⟩
theorem _root_.L2.PSs.weak {X : Cx} {e : List Stmt} {t t' : TS} (h : PSs X e t) (k : ∀ D σ H, t' D σ H → t D σ H) : PSs X e t' := ⟨fun pins s σ H D I q => h.run pins s σ H D I (k D σ H q)⟩
theorem _root_.L2.PE.never {X : Cx} {e : Expr} {t : TE} (k : ∀ σ H Q, ¬ t σ H Q) : PE X e t := ⟨fun pins s σ H Q I q => (k σ H Q q).elim⟩
/-! ### operations on values -/
section
variable {X : Cx} {O : OpT}
/-- an operation of two values, told by f of their data -/
def rTwo (c : Cfg) (f : D → D → Rs (Fl × D)) : R2 := fun x y H Q => ∃ (Z : Addr → Prop) (H0 : Hp) (a b r : Fl × D), (∀ a, Z a → H0 a ≠ none) ∧ Same H0 H ∧ RepF c Z H0 H a x ∧ RepF c Z H0 H b y ∧ f a.2 b.2 = .ok r ∧ ∀ v H', Same H H' → RepF c Z H0 H' r v → Q v H'
def bopIs : Bop → Operator
  | .add => .Add | .sub => .Sub | .mul => .Mult | .fdiv => .FloorDiv | .mod => .Mod | .pow => .Pow | .shl => .LShift | .shr => .RShift | .band => .BitAnd | .bor => .BitOr
theorem Str.app (s t : List Nat) : (⟨⟨s⟩⟩ : PySem.Str) ++ (⟨⟨t⟩⟩ : PySem.Str) = ⟨⟨s ++ t⟩⟩ := by
  show (⟨Array.mk s ++ Array.mk t⟩ : PySem.Str) = ⟨⟨s ++ t⟩⟩
  simp
theorem Str.len (s : List Nat) : (⟨⟨s⟩⟩ : PySem.Str).length = s.length := rfl
theorem flat_fold : ∀ (k : Nat) (x acc : List Nat), (List.replicate k (Array.mk x)).foldl (· ++ ·) (Array.mk acc) = Array.mk (acc ++ (List.replicate k x).flatten)
  | 0, x, acc => by simp
  | k + 1, x, acc => by
    rw [List.replicate_succ, List.foldl_cons, List.replicate_succ, List.flatten_cons]
    have e : Array.mk acc ++ Array.mk x = Array.mk (acc ++ x) := by simp
    rw [e, flat_fold k x (acc ++ x), List.append_assoc]
theorem txt_mul (s : List Nat) (j : Int) (h0 : 0 ≤ j) : Txt.mul ⟨⟨s⟩⟩ j = ⟨⟨(List.replicate j.toNat s).flatten⟩⟩ := by
  unfold Txt.mul
  by_cases h1 : j < 1
  · have e : j.toNat = 0 := by omega
    rw [if_pos h1, e]; rfl
  · rw [if_neg h1]
    by_cases h2 : (j == 1 || (⟨⟨s⟩⟩ : PySem.Str).length == 0) = true
    · rw [if_pos h2]
      rw [Bool.or_eq_true, beq_iff_eq, beq_iff_eq] at h2
      rcases h2 with h2 | h2
      · have e : j.toNat = 1 := by omega
        rw [e]; simp
      · have e : s = [] := List.eq_nil_of_length_eq_zero h2
        rw [e]; simp
    · rw [if_neg h2]
      have e := flat_fold j.toNat s []
      show (⟨(List.replicate j.toNat (Array.mk s)).foldl (· ++ ·) #[]⟩ : PySem.Str) = _
      rw [show (#[] : Array Nat) = Array.mk [] from rfl, e]; rfl
theorem mul_ok (s : List Nat) (j : Int) (h : 0 ≤ j ∧ s.length * j.toNat ≤ 1000000 ∧ j ≤ 1000000) : MulOk ⟨⟨s⟩⟩ j := by
  obtain ⟨h0, h1, h2⟩ := h
  refine ⟨?_, fun h3 h4 => ?_, fun h3 h4 => ?_⟩
  · have e1 : decide (j < -(2 ^ 63 : Int)) = false := decide_eq_false (by omega)
    have e2 : decide (j ≥ 2 ^ 63) = false := decide_eq_false (by omega)
    rw [e1, e2]; rfl
  · have e : (s.length : Int) * j ≤ 1000000 := by
      have : ((s.length * j.toNat : Nat) : Int) ≤ ((1000000 : Nat) : Int) := Int.ofNat_le.mpr h1
      rw [Int.natCast_mul, Int.toNat_of_nonneg h0] at this
      omega
    show ¬ ((s.length : Int) > (2 ^ 63 - 1) / j)
    have hj : 0 < j := by omega
    rw [gt_iff_lt, Int.ediv_lt_iff_lt_mul hj]
    omega
  · show Builtin.Str.tooLong (s.length * j.toNat) = false
    unfold Builtin.Str.tooLong
    exact decide_eq_false (by rw [sizeLine_eq]; omega)
theorem op_bin (op : Bop) : OpR X (binaryOp (bopIs op)) (rTwo (cfg X O) (binD op)) := by
  intro pins s σ H x y v u Q I rx ry h
  obtain ⟨Z, H0, ⟨fa, a⟩, ⟨fb, b⟩, r, hz, s0, ra, rb, e, q⟩ := h
  change binD op a b = Rs.ok r at e
  unfold binD at e
  split at e
  all_goals first | cases e | skip
  · have ea := ra.int; have eb := rb.int; subst ea eb
    exact op_add pins s σ H _ _ v u Q I rx ry ⟨_, _, rfl, rfl, q _ _ (Same.refl H) RepF.mkI⟩
  · have ea := ra.str; have eb := rb.str; subst ea eb
    split at e
    · cases e
      exact op_add_str pins s σ H _ _ v u Q I rx ry ⟨_, _, rfl, rfl, by assumption, q _ _ (Same.refl H) (by rw [Str.app]; exact RepF.mkS)⟩
    · cases e
  · have ea := ra.int; have eb := rb.int; subst ea eb
    exact op_sub pins s σ H _ _ v u Q I rx ry ⟨_, _, rfl, rfl, q _ _ (Same.refl H) RepF.mkI⟩
  · have ea := ra.int; have eb := rb.int; subst ea eb
    split at e
    · rename_i hm
      cases e
      have hm' := of_decide_eq_true hm
      exact op_mul pins s σ H _ _ v u Q I rx ry ⟨_, _, rfl, rfl, hm', q _ _ (Same.refl H) RepF.mkI⟩
    · cases e
  · have ea := ra.str; have eb := rb.int; subst ea eb
    split at e
    · rename_i hm
      cases e
      obtain ⟨t, rfl⟩ := rx
      obtain ⟨t', rfl⟩ := ry
      refine SB.mul (mul_ok _ _ hm) fun t' k => (⟨.str (Txt.mul _ _), H, I.tok k, ⟨t', rfl⟩, ?_⟩ : EP X pins σ Q _ _)
      rw [txt_mul _ _ hm.1]
      exact q _ _ (Same.refl H) RepF.mkS
    · cases e
  · have ea := ra.int; have eb := rb.int; subst ea eb
    split at e
    · rename_i hm
      cases e
      exact op_fdiv pins s σ H _ _ v u Q I rx ry ⟨_, _, rfl, rfl, hm, q _ _ (Same.refl H) RepF.mkI⟩
    · cases e
  · have ea := ra.int; have eb := rb.int; subst ea eb
    split at e
    · rename_i hm
      cases e
      exact op_mod pins s σ H _ _ v u Q I rx ry ⟨_, _, rfl, rfl, hm, q _ _ (Same.refl H) RepF.mkI⟩
    · cases e
  · have ea := ra.int; have eb := rb.int; subst ea eb
    split at e
    · rename_i hm
      cases e
      have hm' := of_decide_eq_true hm
      exact op_pow pins s σ H _ _ v u Q I rx ry ⟨_, _, rfl, rfl, hm', q _ _ (Same.refl H) RepF.mkI⟩
    · cases e
  · have ea := ra.int; have eb := rb.int; subst ea eb
    split at e
    · rename_i hm
      cases e
      have hm' := of_decide_eq_true hm
      exact op_shl pins s σ H _ _ v u Q I rx ry ⟨_, _, rfl, rfl, hm', q _ _ (Same.refl H) RepF.mkI⟩
    · cases e
  · have ea := ra.int; have eb := rb.int; subst ea eb
    split at e
    · rename_i hm
      cases e
      exact op_shr pins s σ H _ _ v u Q I rx ry ⟨_, _, rfl, rfl, hm, q _ _ (Same.refl H) RepF.mkI⟩
    · cases e
  · have ea := ra.int; have eb := rb.int; subst ea eb
    exact op_and pins s σ H _ _ v u Q I rx ry ⟨_, _, rfl, rfl, q _ _ (Same.refl H) RepF.mkI⟩
  · have ea := ra.int; have eb := rb.int; subst ea eb
    exact op_or pins s σ H _ _ v u Q I rx ry ⟨_, _, rfl, rfl, q _ _ (Same.refl H) RepF.mkI⟩
end
end RA
/-! RAD: dicts whose keys are carried by their values (None, bools, ints, texts). -/
namespace RA
open PySem PySem.Spec PyProof.Rows L2
variable [Tabs] [LentT]
theorem key_leaf {k1 k : D} {l1 l : Leaf} (h1 : leafD k1 = some l1) (h : leafD k = some l) : keyEq k1 k = decide (l1 = l) := by
  unfold keyEq
  cases k1 <;> simp only [leafD, reduceCtorEq, Option.some.injEq] at h1 <;> cases k <;> simp only [leafD, reduceCtorEq, Option.some.injEq] at h <;> subst h1 h <;> simp [keyD]
theorem leaf_is {P : Program} {w : World} {c : Cfg} {Z : Addr → Prop} {H : Hp} {k : D} {l : Leaf} {x : V} {u : Value} {e : Bool} (h : leafD k = some l) (he : e = true → isBl k = false) (r : Rep c Z H k x) (ru : RelV x u) : (kindX P w e).is l u = true := by
  have h1 : (leafKind P w).is l u = true := by
    cases r <;> simp only [leafD, reduceCtorEq, Option.some.injEq] at h
    · subst h; cases ru; rfl
    · subst h; cases ru
      exact decide_eq_true rfl
    · subst h
      obtain ⟨t, rfl⟩ := ru
      exact decide_eq_true rfl
    · subst h
      obtain ⟨t, rfl⟩ := ru
      simp [leafKind, Leaf.isOf, Value.isStrOf]
  have h2 : (!e || notBlV u) = true := by
    cases e with
    | false => rfl
    | true =>
      have he := he rfl
      cases r <;> first | (simp [leafD] at h; done) | skip
      · cases ru; rfl
      · exact absurd (show true = false from he) (by decide)
      · obtain ⟨t, rfl⟩ := ru; rfl
      · obtain ⟨t, rfl⟩ := ru; rfl
  show ((leafKind P w).is l u && (!e || notBlV u)) = true
  rw [h1, h2]; rfl
theorem keysL_leafy {kvs : List (D × D)} {k : D} (h : keysL kvs k = true) : RA.leafy k = true ∧ kvs.all (fun kv => RA.leafy kv.1) = true := by
  unfold keysL at h
  rw [Bool.and_eq_true] at h
  refine ⟨h.1, List.all_eq_true.mpr fun x hx => ?_⟩
  have := List.all_eq_true.mp h.2 x hx
  rw [Bool.and_eq_true] at this
  exact this.1
theorem keysL_bl {kvs : List (D × D)} {k : D} (h : keysL kvs k = true) : kvs = [] ∨ noBl kvs = !isBl k := by
  unfold keysL at h
  rw [Bool.and_eq_true] at h
  cases kvs with
  | nil => exact .inl rfl
  | cons x l =>
    refine .inr ?_
    have key : ∀ y ∈ x :: l, isBl y.1 = isBl k := fun y hy => by
      have := List.all_eq_true.mp h.2 y hy
      rw [Bool.and_eq_true] at this
      exact eq_of_beq this.2
    unfold noBl
    cases q : isBl k with
    | false => exact List.all_eq_true.mpr fun y hy => by rw [key y hy, q]; rfl
    | true =>
      rw [List.all_cons, key x List.mem_cons_self, q]; rfl
theorem noBl_put {kvs : List (D × D)} {k d : D} (h : keysL kvs k = true) : noBl (dPut kvs k d) = !isBl k := by
  have hb := keysL_bl h
  unfold dPut
  split
  · rename_i hc
    rcases hb with rfl | hb
    · simp at hc
    · rw [← hb]
      unfold noBl
      rw [List.all_map]
      congr 1
      funext kv
      show (!isBl (if keyEq kv.1 k = true then (kv.1, d) else kv).1) = _
      split <;> rfl
  · unfold noBl at hb ⊢
    rw [List.all_append]
    rcases hb with rfl | hb
    · simp
    · rw [hb]; simp
section
variable {c : Cfg} {B : Addr → Prop} {H : Hp}
theorem RepK.length : ∀ {kvs : List (D × D)} {us : List (Leaf × Value)}, RepK c B H kvs us → kvs.length = us.length
  | _, _, .nil => rfl
  | _, _, .cons _ _ _ t => by rw [List.length_cons, List.length_cons, RepK.length t]
theorem RepK.val {k : D} {l : Leaf} (hk : leafD k = some l) : ∀ {kvs : List (D × D)} {us : List (Leaf × Value)}, RepK c B H kvs us →
    (∃ d v u, dGet kvs k = some d ∧ valueAt us l = some u ∧ RelV v u ∧ Rep c B H d v) ∨ (dGet kvs k = none ∧ valueAt us l = none)
  | _, _, .nil => .inr ⟨rfl, rfl⟩
  | _, _, .cons (k := k1) (d := d) (v := v) (l := l1) (u := u) (kvs := kvs) (us := us) h r ru t => by
    have e := key_leaf h hk
    by_cases q : l1 = l
    · refine .inl ⟨d, v, u, ?_, ?_, ru, r⟩
      · unfold dGet; rw [List.find?_cons]; simp only [e, q, decide_true]; rfl
      · unfold valueAt; rw [List.find?_cons]; simp only [q, decide_true]; rfl
    · have a : dGet ((k1, d) :: kvs) k = dGet kvs k := by unfold dGet; rw [List.find?_cons]; simp only [e, q, decide_false]
      have b : valueAt ((l1, u) :: us) l = valueAt us l := by unfold valueAt; rw [List.find?_cons]; simp only [q, decide_false]
      rw [a, b]
      exact RepK.val hk t
theorem RepK.any {k : D} {l : Leaf} (hk : leafD k = some l) : ∀ {kvs : List (D × D)} {us : List (Leaf × Value)}, RepK c B H kvs us → (kvs.any fun kv => keyEq kv.1 k) = us.any fun kv => decide (kv.1 = l)
  | _, _, .nil => rfl
  | _, _, .cons h r ru t => by rw [List.any_cons, List.any_cons, key_leaf h hk, RepK.any hk t]
theorem RepK.repl {k d : D} {l : Leaf} {v : V} {u : Value} (hk : leafD k = some l) (r : Rep c B H d v) (ru : RelV v u) : ∀ {kvs : List (D × D)} {us : List (Leaf × Value)}, RepK c B H kvs us →
    RepK c B H (kvs.map fun kv => if keyEq kv.1 k = true then (kv.1, d) else kv) (us.map fun kv => if kv.1 = l then (kv.1, u) else kv)
  | _, _, .nil => .nil
  | _, _, .cons (k := k1) (l := l1) h r1 ru1 t => by
    rw [List.map_cons, List.map_cons]
    have e := key_leaf h hk
    by_cases q : l1 = l
    · rw [if_pos (by rw [e]; exact decide_eq_true q), if_pos q]
      exact .cons h r ru (RepK.repl hk r ru t)
    · rw [if_neg (by rw [e]; simpa using q), if_neg q]
      exact .cons h r1 ru1 (RepK.repl hk r ru t)
theorem RepK.snoc {k d : D} {l : Leaf} {v : V} {u : Value} (hk : leafD k = some l) (r : Rep c B H d v) (ru : RelV v u) : ∀ {kvs : List (D × D)} {us : List (Leaf × Value)}, RepK c B H kvs us → RepK c B H (kvs ++ [(k, d)]) (us ++ [(l, u)])
  | _, _, .nil => .cons hk r ru .nil
  | _, _, .cons h r1 ru1 t => .cons h r1 ru1 (RepK.snoc hk r ru t)
theorem RepK.put {k d : D} {l : Leaf} {v : V} {u : Value} (hk : leafD k = some l) (r : Rep c B H d v) (ru : RelV v u) {kvs : List (D × D)} {us : List (Leaf × Value)} (t : RepK c B H kvs us) : RepK c B H (dPut kvs k d) (stored us l u) := by
  unfold dPut stored
  rw [RepK.any hk t]
  split
  · exact RepK.repl hk r ru t
  · exact RepK.snoc hk r ru t
end
theorem stored_len {us : List (Leaf × Value)} {l : Leaf} {u : Value} : (stored us l u).length ≤ us.length + 1 := by
  unfold stored
  split
  · rw [List.length_map]; omega
  · rw [List.length_append, List.length_cons, List.length_nil]; omega
/-- what a by-value dict's object is -/
def phK (P : Program) (w : World) (e : Bool) (a : Addr) (us : List (Leaf × Value)) : Heap → Prop := fun h => us.length ≤ sizeLine ∧ (a == sysModules) = false ∧ h.DictOf (kindX P w e) a us
theorem RepK.phK {P : Program} {w : World} {c : Cfg} {B : Addr → Prop} {H : Hp} {h : Heap} {a : Addr} {kvs : List (D × D)} {k : D} {us : List (Leaf × Value)} (hk : keysL kvs k = true) (r : RepK c B H kvs us) (p : RA.phK P w (noBl kvs) a us h) : RA.phK P w (!isBl k) a us h := by
  rcases keysL_bl hk with rfl | q
  · cases r
    exact ⟨p.1, p.2.1, dict_nil p.2.2⟩
  · rw [← q]; exact p
theorem not_bl {k : D} : (!isBl k) = true → isBl k = false := fun h => by
  cases q : isBl k with
  | false => rfl
  | true => rw [q] at h; cases h
section
variable {X : Cx} {O : OpT} {pins : List (Addr × Obj)} {σ : L2.St} {H : Hp} {s : Shared}
theorem dict_own {Z : Addr → Prop} {kvs : List (D × D)} {a : Addr} (I : Inv X pins σ H s) (r : OwnAt (cfg X O) Z H (.dct kvs) a) (hl : kvs.all (fun kv => leafy kv.1) = true) :
    ∃ us φ, H a = some (.ext φ) ∧ RepK (cfg X O) Z H kvs us ∧ phK X.prog X.w (noBl kvs) a us s.heap := by
  cases r with
  | dctK h r => exact ⟨_, _, h, r, (show ObjOk X.prog X.w H s.heap a _ from I.hok a _ h).1⟩
  | dctT h r =>
    have q := (show ObjOk X.prog X.w H s.heap a _ from I.hok a _ h).1
    cases r with
    | nil =>
      obtain ⟨q1, q2, o, es, ep, g1, g2, g3, g4, g5⟩ := q
      have e : es = #[] := by
        have : es.toList = [] := by simpa using g4
        exact Array.toList_eq_nil_iff.mp this
      subst e
      exact ⟨[], _, h, .nil, Nat.zero_le _, q2, o, #[], ep, g1, g2, g3, fun e he => by simp at he, .nil, List.nodup_nil⟩
    | cons hk _ _ _ _ _ =>
      simp [RA.leafy, leafD] at hl
theorem dict_val {Z : Addr → Prop} {H0 : Hp} {f : Fl} {kvs : List (D × D)} {v : V} (I : Inv X pins σ H s) (r : RepF (cfg X O) Z H0 H (f, .dct kvs) v) (hl : kvs.all (fun kv => leafy kv.1) = true) :
    ∃ a us, v = .ref a ∧ RepK (cfg X O) Z H kvs us ∧ phK X.prog X.w (noBl kvs) a us s.heap := by
  have low : ∀ {Z' : Addr → Prop} {a : Addr}, (∀ b, Z b → Z' b) → OwnAt (cfg X O) Z' H (.dct kvs) a → ∃ us, RepK (cfg X O) Z H kvs us ∧ phK X.prog X.w (noBl kvs) a us s.heap := fun {Z' a} hz o => by
    obtain ⟨us, φ, _, r, p⟩ := dict_own I o hl
    exact ⟨us, RepK.grow (fun b z => .inl (hz b z)) r, p⟩
  cases f with
  | val =>
    cases r with
    | dctK h b r =>
      exact ⟨_, _, rfl, r, (show ObjOk X.prog X.w H s.heap _ _ from I.hok _ _ h).1⟩
    | dctT h b r =>
      obtain ⟨us, k1, k2⟩ := low (fun b z => z) (OwnAt.dctT h r)
      exact ⟨_, us, rfl, k1, k2⟩
  | tmp =>
    obtain ⟨a, rfl, o⟩ := r
    obtain ⟨us, k1, k2⟩ := low (fun b z => z) o
    exact ⟨a, us, rfl, k1, k2⟩
  | own =>
    obtain ⟨a, rfl, _, o⟩ := r
    obtain ⟨us, k1, k2⟩ := low (fun b z => .inl z) o
    exact ⟨a, us, rfl, k1, k2⟩
/-- the key -/
theorem leafy_of {k : D} (h : leafy k = true) : ∃ l, leafD k = some l := Option.isSome_iff_exists.mp h
theorem leaf_rep {c : Cfg} {Z : Addr → Prop} {H0 H : Hp} {f : Fl} {k : D} {l : Leaf} {v : V} (h : leafD k = some l) (r : RepF c Z H0 H (f, k) v) : Rep c Z H k v := by
  cases k <;> simp only [leafD, reduceCtorEq] at h
  · rw [r.non]; exact .non
  · rw [r.bl]; exact .bl _
  · rw [r.int]; exact .int _
  · rw [r.str]; exact .str _
/-- d[k] = v, d an own dict -/
def rSetD (c : Cfg) : V → V → V → Hp → (Hp → Prop) → Prop := fun o i v H Q => ∃ (Z : Addr → Prop) (H0 : Hp) (a : Addr) (kvs : List (D × D)) (k d : D) (f : Fl), o = .ref a ∧ OwnAt c Z H (.dct kvs) a ∧ keysL kvs k = true ∧ kvs.length < sizeLine ∧ RepF c Z H0 H (f, k) i ∧ Rep c Z H d v ∧
  ∀ us, RepK c Z H (dPut kvs k d) us → Q (upd H a (.ext (phK c.P c.w (noBl (dPut kvs k d)) a us)))
theorem set_dict : PSet X (rSetD (cfg X O)) := by
  intro pins s σ H o i v ov iv u Q I ro ri rv h
  obtain ⟨Z, H0, a, kvs, k, d, f, rfl, own, hk, hlen, rk, rd, q⟩ := h
  obtain ⟨l, hl⟩ := leafy_of (keysL_leafy hk).1
  obtain ⟨us, φ, he, r, ph0⟩ := dict_own I own (keysL_leafy hk).2
  obtain ⟨hz, hd, dd⟩ := r.phK hk ph0
  obtain rfl : ov = Value.ref a := ro
  have ki := leaf_is (P := X.prog) (w := X.w) hl not_bl (leaf_rep hl rk) ri
  refine wpAny_setItem_pairs (hsz := hz) ki dd fun h' dd' hs => ?_
  have he' : ∃ q, h'.get? a = some q := let ⟨q, _, _, hq, _⟩ := dd'; ⟨q, hq⟩
  have hl2 : (stored us l u).length ≤ sizeLine := by
    have := stored_len (us := us) (l := l) (u := u)
    rw [r.length] at hlen
    omega
  have qq := q _ (r.put hl rd rv)
  rw [noBl_put hk] at qq
  refine ⟨_, d_write I (by rw [he]; exact True.intro) hs he' ?_, qq⟩
  exact ⟨⟨hl2, hd, dd'⟩, he', fun h1 h2 z k => ⟨z.1, z.2.1, z.2.2.at k⟩⟩
theorem PSet.or {r1 r2 : TSet} (h1 : PSet X r1) (h2 : PSet X r2) : PSet X (fun o i v H Q => r1 o i v H Q ∨ r2 o i v H Q) := by
  intro pins s σ H o i v ov iv u Q I ro ri rv h
  rcases h with h | h
  · exact h1 pins s σ H o i v ov iv u Q I ro ri rv h
  · exact h2 pins s σ H o i v ov iv u Q I ro ri rv h
end
end RA
/-! RAT: dicts whose keys are tuples. -/
namespace RA
open PySem PySem.Spec PyProof.Rows L2
variable [Tabs] [LentT]
theorem tupKey_of {k : D} (h : tupKey k = true) : ∃ ks l, k = .tup ks ∧ keyD (.tup ks) = some l ∧ l.depth ≤ 8 := by
  unfold tupKey at h
  split at h
  · rename_i ks
    split at h
    · rename_i l e
      exact ⟨ks, l, rfl, e, of_decide_eq_true h⟩
    · cases h
  · cases h
theorem key_tup {k1 k : D} {l1 l : NestedKey} (h1 : keyD k1 = some l1) (h : keyD k = some l) : keyEq k1 k = decide (l1 = l) := by
  unfold keyEq
  rw [h1, h]
  by_cases e : l1 = l
  · rw [e, decide_eq_true rfl, decide_eq_true rfl]
  · rw [decide_eq_false e, decide_eq_false (fun z => e (Option.some.inj z))]
section
variable {c : Cfg} {B : Addr → Prop} {H : Hp}
theorem RepT.length : ∀ {kvs : List (D × D)} {us : List (NestedKey × Addr × Value)}, RepT c B H kvs us → kvs.length = us.length
  | _, _, .nil => rfl
  | _, _, .cons _ _ _ _ _ t => by rw [List.length_cons, List.length_cons, RepT.length t]
theorem atKey_cons {l1 l : NestedKey} {q : Addr} {u : Value} {us : List (NestedKey × Addr × Value)} : atKey ((l1, q, u) :: us) l = if l1 = l then some (q, u) else atKey us l := by
  unfold atKey
  rw [List.find?_cons]
  by_cases e : l1 = l
  · simp [e]
  · simp [e]
theorem dGet_cons {k1 d k : D} {kvs : List (D × D)} : dGet ((k1, d) :: kvs) k = if keyEq k1 k = true then some d else dGet kvs k := by
  unfold dGet
  rw [List.find?_cons]
  by_cases e : keyEq k1 k = true
  · simp [e]
  · simp [e]
theorem RepT.val {k : D} {l : NestedKey} (hk : keyD k = some l) : ∀ {kvs : List (D × D)} {us : List (NestedKey × Addr × Value)}, RepT c B H kvs us →
    (∃ d v u q, dGet kvs k = some d ∧ atKey us l = some (q, u) ∧ RelV v u ∧ Rep c B H d v) ∨ (dGet kvs k = none ∧ atKey us l = none)
  | _, _, .nil => .inr ⟨rfl, rfl⟩
  | _, _, .cons (k := k1) (l := l1) (d := d) (v := v) (u := u) (q := q) h _ _ r ru t => by
    have e := key_tup h hk
    rw [dGet_cons, atKey_cons, e]
    by_cases z : l1 = l
    · rw [if_pos z, if_pos (decide_eq_true z)]
      exact .inl ⟨d, v, u, q, rfl, rfl, ru, r⟩
    · rw [if_neg z, if_neg (by simpa using z)]
      exact RepT.val hk t
theorem RepT.any {k : D} {l : NestedKey} (hk : keyD k = some l) : ∀ {kvs : List (D × D)} {us : List (NestedKey × Addr × Value)}, RepT c B H kvs us → (kvs.any fun kv => keyEq kv.1 k) = (atKey us l).isSome
  | _, _, .nil => rfl
  | _, _, .cons (l := l1) h _ _ r ru t => by
    rw [List.any_cons, key_tup h hk, RepT.any hk t, atKey_cons]
    by_cases z : l1 = l
    · rw [if_pos z, decide_eq_true z]; rfl
    · rw [if_neg z, decide_eq_false z]; rfl
theorem RepT.repl {k d : D} {l : NestedKey} {v : V} {u : Value} (hk : keyD k = some l) (r : Rep c B H d v) (ru : RelV v u) : ∀ {kvs : List (D × D)} {us : List (NestedKey × Addr × Value)}, RepT c B H kvs us →
    RepT c B H (kvs.map fun kv => if keyEq kv.1 k = true then (kv.1, d) else kv) (us.map (putAt l u))
  | _, _, .nil => .nil
  | _, _, .cons (k := k1) (l := l1) h dp kq r1 ru1 t => by
    rw [List.map_cons, List.map_cons]
    have e := key_tup h hk
    unfold putAt
    by_cases q : l1 = l
    · rw [if_pos (by rw [e]; exact decide_eq_true q), if_pos q]
      exact .cons h dp kq r ru (RepT.repl hk r ru t)
    · rw [if_neg (by rw [e]; simpa using q), if_neg q]
      exact .cons h dp kq r1 ru1 (RepT.repl hk r ru t)
theorem RepT.snoc {k : List D} {d : D} {l : NestedKey} {q : Addr} {v : V} {u : Value} (hk : keyD (.tup k) = some l) (dp : l.depth ≤ 8) (kq : Rep c B H (.tup k) (.ref q)) (r : Rep c B H d v) (ru : RelV v u) : ∀ {kvs : List (D × D)} {us : List (NestedKey × Addr × Value)}, RepT c B H kvs us → RepT c B H (kvs ++ [(.tup k, d)]) (us ++ [(l, q, u)])
  | _, _, .nil => .cons hk dp kq r ru .nil
  | _, _, .cons h dp1 kq1 r1 ru1 t => .cons h dp1 kq1 r1 ru1 (RepT.snoc hk dp kq r ru t)
theorem RepT.put {k : List D} {d : D} {l : NestedKey} {q : Addr} {v : V} {u : Value} (hk : keyD (.tup k) = some l) (dp : l.depth ≤ 8) (kq : Rep c B H (.tup k) (.ref q)) (r : Rep c B H d v) (ru : RelV v u) {kvs : List (D × D)} {us : List (NestedKey × Addr × Value)} (t : RepT c B H kvs us) : RepT c B H (dPut kvs (.tup k) d) (storedH us l q u) := by
  unfold dPut storedH
  rw [RepT.any hk t]
  split
  · exact RepT.repl hk r ru t
  · exact RepT.snoc hk dp kq r ru t
end
theorem storedH_len {us : List (NestedKey × Addr × Value)} {l : NestedKey} {q : Addr} {u : Value} : (storedH us l q u).length ≤ us.length + 1 := by
  unfold storedH
  split
  · rw [List.length_map]; omega
  · rw [List.length_append, List.length_cons, List.length_nil]; omega
/-- what a dict's object is whose keys are tuples -/
def phT (P : Program) (w : World) (a : Addr) (us : List (NestedKey × Addr × Value)) : Heap → Prop := fun h => us.length ≤ sizeLine ∧ (a == sysModules) = false ∧ ∃ o es ep, h.get? a = some o ∧ o.ExactDict ∧ o.data = .dict es ep ∧ es.toList = us.map (entryOfKey (nestedKind P w)) ∧ (us.map (·.1)).Nodup
theorem phT_at {P : Program} {w : World} {a : Addr} {us : List (NestedKey × Addr × Value)} (h1 h2 : Heap) (z : phT P w a us h1) (k : ∀ o, h1.get? a = some o → h2.get? a = some o) : phT P w a us h2 :=
  ⟨z.1, z.2.1, let ⟨o, es, ep, e, r⟩ := z.2.2; ⟨o, es, ep, k o e, r⟩⟩
section
variable {X : Cx} {O : OpT} {pins : List (Addr × Obj)} {σ : L2.St} {H : Hp} {s : Shared}
mutual
theorem key_is (I : Inv X pins σ H s) {Z : Addr → Prop} : ∀ {d : D} {v : V} {l : NestedKey} {u : Value}, Rep (cfg X O) Z H d v → keyD d = some l → RelV v u → NestedIs s.heap l u
  | _, _, _, _, .non, h, ru => by cases h; cases ru; exact .none
  | _, _, _, _, .bl b, h, ru => by cases h; cases ru; exact .bool rfl
  | _, _, _, _, .int i, h, ru => by cases h; obtain ⟨t, rfl⟩ := ru; exact .int _ _
  | _, _, _, _, .str x, h, ru => by cases h; obtain ⟨t, rfl⟩ := ru; exact .text _ _
  | _, _, _, _, .tup t r, h, ru => by
    obtain ⟨ls, e, rfl⟩ := Option.map_eq_some_iff.mp (show (keyDs _).map NestedKey.tup = some _ from h)
    cases ru
    obtain ⟨its, rv, ⟨o, ho, hc, n, hd⟩, _⟩ := I.tuple t.sq
    exact .tup ho hc hd (keys_is I r e rv)
  | _, _, _, _, .lst _ _, h, _ => by cases h
  | _, _, _, _, .dctK _ _ _, h, _ => by cases h
  | _, _, _, _, .dctT _ _ _, h, _ => by cases h
  | _, _, _, _, .opq _ _, h, _ => by cases h
theorem keys_is (I : Inv X pins σ H s) {Z : Addr → Prop} : ∀ {ds : List D} {vs : List V} {ls : List NestedKey} {us : List Value}, Reps (cfg X O) Z H ds vs → keyDs ds = some ls → Vals vs us → NestedAll s.heap ls us
  | _, _, _, _, .nil, h, .nil => by cases h; exact .nil
  | _, _, _, _, .cons (d := d) (ds := ds) r t, h, .cons ru tu => by
    have h : (match keyD d, keyDs ds with | some k, some ks => some (k :: ks) | _, _ => none) = some _ := h
    cases e1 : keyD d with
    | none => rw [e1] at h; cases h
    | some k =>
      cases e2 : keyDs ds with
      | none => rw [e1, e2] at h; cases h
      | some ks =>
        rw [e1, e2] at h
        cases h
        exact .cons (key_is I r e1 ru) (keys_is I t e2 tu)
end
theorem RepT.isAll (I : Inv X pins σ H s) {Z : Addr → Prop} : ∀ {kvs : List (D × D)} {us : List (NestedKey × Addr × Value)}, RepT (cfg X O) Z H kvs us → ∀ x ∈ us, (nestedKind X.prog X.w).is s.heap x.1 x.2.1
  | _, _, .nil, x, hx => by cases hx
  | _, _, .cons h dp kq _ _ t, x, hx => by
    rcases List.mem_cons.mp hx with e | hx
    · subst e; exact ⟨key_is I kq h rfl, dp⟩
    · exact RepT.isAll I t x hx
theorem dictH (I : Inv X pins σ H s) {Z : Addr → Prop} {kvs : List (D × D)} {us : List (NestedKey × Addr × Value)} {a : Addr} (r : RepT (cfg X O) Z H kvs us) (p : phT X.prog X.w a us s.heap) : s.heap.DictOfH (nestedKind X.prog X.w) a us := by
  obtain ⟨_, _, o, es, ep, h1, h2, h3, h4, h5⟩ := p
  exact ⟨o, es, ep, h1, h2, h3, h4, r.isAll I, h5⟩
theorem phT_of {h' : Heap} {a : Addr} {us : List (NestedKey × Addr × Value)} (hl : us.length ≤ sizeLine) (hd : (a == sysModules) = false) (z : h'.DictOfH (nestedKind X.prog X.w) a us) : phT X.prog X.w a us h' := by
  obtain ⟨o, es, ep, h1, h2, h3, h4, _, h5⟩ := z
  exact ⟨hl, hd, o, es, ep, h1, h2, h3, h4, h5⟩
theorem leaf_tup {k : D} (h : tupKey k = true) : leafD k = none := by
  obtain ⟨ks, l, rfl, _⟩ := tupKey_of h
  rfl
theorem dict_ownT {Z : Addr → Prop} {kvs : List (D × D)} {a : Addr} (I : Inv X pins σ H s) (r : OwnAt (cfg X O) Z H (.dct kvs) a) (hl : kvs.all (fun kv => tupKey kv.1) = true) :
    ∃ us φ, H a = some (.ext φ) ∧ RepT (cfg X O) Z H kvs us ∧ phT X.prog X.w a us s.heap := by
  cases r with
  | dctT h r => exact ⟨_, _, h, r, (show ObjOk X.prog X.w H s.heap a _ from I.hok a _ h).1⟩
  | dctK h r =>
    have q := (show ObjOk X.prog X.w H s.heap a _ from I.hok a _ h).1
    cases r with
    | nil =>
      obtain ⟨q1, q2, o, es, ep, g1, g2, g3, g4, g5, g6⟩ := q
      have e : es.toList = [] := by
        cases g5' : es.toList with
        | nil => rfl
        | cons x l => rw [g5'] at g5; cases g5
      exact ⟨[], _, h, .nil, Nat.zero_le _, q2, o, es, ep, g1, g2, g3, e, List.nodup_nil⟩
    | cons hk _ _ _ =>
      rw [List.all_cons, Bool.and_eq_true] at hl
      rw [leaf_tup hl.1] at hk; cases hk
theorem dict_valT {Z : Addr → Prop} {H0 : Hp} {f : Fl} {kvs : List (D × D)} {v : V} (I : Inv X pins σ H s) (r : RepF (cfg X O) Z H0 H (f, .dct kvs) v) (hl : kvs.all (fun kv => tupKey kv.1) = true) :
    ∃ a us, v = .ref a ∧ RepT (cfg X O) Z H kvs us ∧ phT X.prog X.w a us s.heap := by
  have low : ∀ {Z' : Addr → Prop} {a : Addr}, (∀ b, Z b → Z' b) → OwnAt (cfg X O) Z' H (.dct kvs) a → ∃ us, RepT (cfg X O) Z H kvs us ∧ phT X.prog X.w a us s.heap := fun {Z' a} hz o => by
    obtain ⟨us, φ, _, r, p⟩ := dict_ownT I o hl
    exact ⟨us, RepT.grow (fun b z => .inl (hz b z)) r, p⟩
  cases f with
  | val =>
    cases r with
    | dctT h b r => exact ⟨_, _, rfl, r, (show ObjOk X.prog X.w H s.heap _ _ from I.hok _ _ h).1⟩
    | dctK h b r =>
      obtain ⟨us, k1, k2⟩ := low (fun b z => z) (OwnAt.dctK h r)
      exact ⟨_, us, rfl, k1, k2⟩
  | tmp =>
    obtain ⟨a, rfl, o⟩ := r
    obtain ⟨us, k1, k2⟩ := low (fun b z => z) o
    exact ⟨a, us, rfl, k1, k2⟩
  | own =>
    obtain ⟨a, rfl, _, o⟩ := r
    obtain ⟨us, k1, k2⟩ := low (fun b z => .inl z) o
    exact ⟨a, us, rfl, k1, k2⟩
theorem RepF.tupv {c : Cfg} {Z : Addr → Prop} {H0 H : Hp} {f : Fl} {ds : List D} {v : V} (h : RepF c Z H0 H (f, .tup ds) v) : ∃ a, v = .ref a ∧ Rep c Z H (.tup ds) (.ref a) := by
  cases h.low (fun a Z z => by cases z) with
  | tup t r => exact ⟨_, rfl, .tup t r⟩
theorem room_T (hu : X.A.units + 64 < cLine) : (nestedKind X.prog X.w).room X.A.in1 := by
  show X.A.in1.units + 8 < cLine
  have : X.A.in1.units = X.A.units + 1 := rfl
  omega
/-- d[k] = v, d an own dict, k a tuple -/
def rSetT (c : Cfg) : V → V → V → Hp → (Hp → Prop) → Prop := fun o i v H Q => ∃ (Z : Addr → Prop) (H0 : Hp) (a : Addr) (kvs : List (D × D)) (k d : D) (f : Fl), o = .ref a ∧ OwnAt c Z H (.dct kvs) a ∧ keysT kvs k = true ∧ kvs.length < sizeLine ∧ RepF c Z H0 H (f, k) i ∧ Rep c Z H d v ∧
  ∀ us, RepT c Z H (dPut kvs k d) us → Q (upd H a (.ext (phT c.P c.w a us)))
theorem set_dictT (hu : X.A.units + 64 < cLine) : PSet X (rSetT (cfg X O)) := by
  intro pins s σ H o i v ov iv u Q I ro ri rv h
  obtain ⟨Z, H0, a, kvs, k, d, f, rfl, own, hk, hlen, rk, rd, q⟩ := h
  unfold keysT at hk
  rw [Bool.and_eq_true] at hk
  obtain ⟨ks, l, rfl, hl, hdp⟩ := tupKey_of hk.1
  obtain ⟨us, φ, he, r, hph⟩ := dict_ownT I own hk.2
  obtain rfl : ov = Value.ref a := ro
  obtain ⟨q0, rfl, kq⟩ := rk.tupv
  obtain rfl : iv = Value.ref q0 := ri
  have ki : (nestedKind X.prog X.w).is s.heap l q0 := ⟨key_is I kq hl rfl, hdp⟩
  refine wpAny_setItem_heap (hsz := hph.1) (room_T hu) ki (dictH I r hph) fun h' dd' hs => ?_
  have hl2 : (storedH us l q0 u).length ≤ sizeLine := by
    have := storedH_len (us := us) (l := l) (q := q0) (u := u)
    rw [r.length] at hlen
    omega
  have ph' := phT_of hl2 hph.2.1 dd'
  have he' : ∃ q, h'.get? a = some q := let ⟨q, _, _, hq, _⟩ := dd'; ⟨q, hq⟩
  refine ⟨_, d_write I (by rw [he]; exact True.intro) hs he' ?_, q _ (RepT.put hl hdp kq rd rv r)⟩
  exact ⟨ph', he', fun h1 h2 z k => phT_at h1 h2 z k⟩
end
/-! ### {k: v} with a tuple -/
section
variable {prog : Program} {w : World} {A : Around} {E : Value → Shared → Prop} {s : Shared}
theorem wpAny_store1 {d q : Addr} {l : NestedKey} {v : Value} {Q : PUnit → Shared → Prop} (hr : (nestedKind prog w).room A) (hk : (nestedKind prog w).is s.heap l q) (hm : s.heap.DictOfH (nestedKind prog w) d [])
    (hQ : ∀ h', h'.DictOfH (nestedKind prog w) d [(l, q, v)] → Heap.SameBut d s.heap h' → ∀ t, Q PUnit.unit { s with heap := h', toks := t }) :
    wpAny (model prog w) A (forIn [(Value.ref q, v)] PUnit.unit fun (x : Value × Value) (_ : PUnit) => (do dictSet d x.1 x.2; pure (ForInStep.yield PUnit.unit) : Sem (ForInStep PUnit))) Q E s := by
  rw [List.forIn_cons]
  refine wpAny_bind (wpAny_bind (wpAny_dictSet_heap (hsz := Nat.zero_le _) hr hk hm fun h₁ hm₁ hs₁ => wpAny_pure ?_))
  exact wpAny_pure (hQ h₁ (by simpa [storedH, atKey] using hm₁) hs₁ _)
theorem wpAny_subDict1 {p : Sem Value × Sem Value} {Q : Addr → Shared → Prop} (hr : (nestedKind prog w).room A)
    (h : wpAny (model prog w) A (evalPairs [p]) (fun vs s₁ => ∃ q l v, vs = [(.ref q, v)] ∧ (nestedKind prog w).is s₁.heap l q ∧ s₁.heap.DictOfH (nestedKind prog w) s.heap.objs.size [] ∧
      ∀ h', h'.DictOfH (nestedKind prog w) s.heap.objs.size [(l, q, v)] → Heap.SameBut s.heap.objs.size s₁.heap h' → ∀ t, Q s.heap.objs.size { s₁ with heap := h', toks := t }) E
      { s with heap := s.heap.push { cls := .type "dict", data := .dict #[] } }) :
    wpAny (model prog w) A (subDict [p]) Q E s := by
  unfold subDict
  refine wpAny_bind (wpAny_alloc ?_)
  refine wpAny_bind (wpAny_holding ?_)
  rw [if_pos (by simp)]
  refine wpAny_bind (wpAny_mono h (fun vs s₁ h₁ => ?_) fun _ _ e => e)
  obtain ⟨q, l, v, rfl, hk, hm, hQ⟩ := h₁
  refine wpAny_holding ?_
  exact wpAny_bind (wpAny_store1 hr hk hm fun h' hm' hs' t => wpAny_pure (wpAny_pure (hQ h' hm' hs' t)))
theorem wpAny_Dict_one {kx vx : Expr} {env : Env} {pos : Pos} {Q : Value → Shared → Prop} (hr : (nestedKind prog w).room A)
    (h : wpAny (model prog w) A (evalPairs (pairTrees [some kx] [vx] env pos)) (fun vs s₁ => ∃ q l v, vs = [(.ref q, v)] ∧ (nestedKind prog w).is s₁.heap l q ∧ s₁.heap.DictOfH (nestedKind prog w) s.heap.objs.size [] ∧
      ∀ h', h'.DictOfH (nestedKind prog w) s.heap.objs.size [(l, q, v)] → Heap.SameBut s.heap.objs.size s₁.heap h' → ∀ t, Q (.ref s.heap.objs.size) { s₁ with heap := h', toks := t }) E
      { s with heap := s.heap.push { cls := .type "dict", data := .dict #[] } }) :
    wpAny (model prog w) A (eval (.Dict [some kx] [vx] pos) env) Q E s := by
  rw [arm_eval_Dict, zip_pairTrees _ _ env pos rfl rfl]
  have e := dictDisplay_pairs (pairTrees [some kx] [vx] env pos) (by intro z; cases z) (by show 1 < 17; omega)
  rw [e]
  exact wpAny_bind (wpAny_standAt (wpAny_bind (wpAny_subDict1 (Q := fun d s' => wpAny (model prog w) A (pure (Value.ref d)) Q E s') hr
    (wpAny_mono h (fun vs s₁ h₁ => by obtain ⟨q, l, v, e1, e2, e3, hq⟩ := h₁; exact ⟨q, l, v, e1, e2, e3, fun h' a b t => wpAny_pure (hq h' a b t)⟩) fun _ _ e => e))))
end
end RA
/-! RA4: comparisons, items, slices, built-ins. -/
namespace RA
open PySem PySem.Spec PyProof.Rows L2
variable [Tabs] [LentT]
/-! ### data for == -/
section
variable {c : Cfg} {Z : Addr → Prop} {H : Hp}
mutual
theorem Rep.dp : ∀ {d : D} {v : V}, Rep c Z H d v → (∀ k, toP d ≠ .dict k) → (SeqAt.shaped (toP d) = true ∨ (toP d).canLay0 = true) → Dp c.K H v (toP d)
  | _, _, .non, _, _ => .non
  | _, _, .bl b, _, _ => .bl b
  | _, _, .int i, _, _ => .int i
  | _, _, .str s, _, _ => .str _
  | _, _, .tup h r, _, hs => by
    rw [toP]
    exact .tup h.sq (Reps.dp r (hs.elim (fun z => SeqAt.canLay_of_shaped z) fun z => z))
  | _, _, .lst h r, _, hs => by
    rw [toP]
    exact .lst h.sq (Reps.dp r (hs.elim (fun z => SeqAt.canLay_of_shaped z) fun z => z))
  | _, _, .dctK _ _ _, hn, _ => (hn [] rfl).elim
  | _, _, .dctT _ _ _, hn, _ => (hn [] rfl).elim
  | _, _, .opq _ _, hn, _ => (hn [] rfl).elim
theorem Reps.dp : ∀ {ds : List D} {vs : List V}, Reps c Z H ds vs → PyData.canLayAll0 (toPs ds) = true → DpAll c.K H vs (toPs ds)
  | _, _, .nil, _ => .nil
  | d :: _, _, .cons h t, hs => by
    have e : ((toP d).canLay0 && PyData.canLayAll0 (toPs _)) = true := hs
    rw [Bool.and_eq_true] at e
    exact .cons (Rep.dp h (fun k z => by rw [z] at e; exact absurd e.1 Bool.false_ne_true) (.inr e.1)) (Reps.dp t e.2)
end
/-- of any evaluated thing -/
theorem RepF.dp {H0 : Hp} {x : Fl × D} {v : V} (h : RepF c Z H0 H x v) (hs : SeqAt.shaped (toP x.2) = true) : Dp c.K H v (toP x.2) := by
  obtain ⟨f, d⟩ := x
  have hc := SeqAt.canLay_of_shaped hs
  have hn : ∀ k, toP d ≠ .dict k := fun k z => by
    have hc : (toP d).canLay0 = true := hc
    rw [z] at hc; exact absurd hc Bool.false_ne_true
  have low : ∀ {Z' : Addr → Prop} {a : Addr}, OwnAt c Z' H d a → Dp c.K H (.ref a) (toP d) := fun {Z' a} r => by
    cases r with
    | lst h r => rw [toP]; exact .lst (.of h) (Reps.dp r hc)
    | dctK _ _ => exact (hn [] rfl).elim
    | dctT _ _ => exact (hn [] rfl).elim
  cases f with
  | val => exact Rep.dp h hn (.inl hs)
  | tmp => obtain ⟨a, rfl, r⟩ := h; exact low r
  | own => obtain ⟨a, rfl, _, r⟩ := h; exact low r
end
def vS : D → V
  | .non => .non | .bl b => .bl b | .int i => .int i | .str s => .str ⟨⟨s⟩⟩ | _ => .non
theorem RepF.flat {c : Cfg} {Z : Addr → Prop} {H0 H : Hp} {f : Fl} {d : D} {v : V} (h : RepF c Z H0 H (f, d) v) (hd : flatD d = true) : v = vS d := by
  cases d with
  | non => exact h.non
  | bl b => exact h.bl
  | int i => exact h.int
  | str s => exact h.str
  | _ => exact absurd hd Bool.false_ne_true
theorem Rep.flat {c : Cfg} {Z : Addr → Prop} {H : Hp} {d : D} {v : V} (h : Rep c Z H d v) (hd : flatD d = true) : v = vS d :=
  RepF.flat (H0 := H) (f := .val) (show RepF c Z H H (.val, d) v from h) hd
theorem flatV_vS {d : D} (h : flatD d = true) : flatV (vS d) = true := by cases d <;> first | rfl | exact absurd h Bool.false_ne_true
theorem eqV_vS {x y : D} (hx : flatD x = true) (hy : flatD y = true) : eqV (vS y) (vS x) = eqF y x := by
  cases x <;> first | (exact absurd hx Bool.false_ne_true) | skip
  all_goals cases y <;> first | (exact absurd hy Bool.false_ne_true) | rfl | skip
  · rename_i a b
    show ((⟨⟨b⟩⟩ : PySem.Str) == ⟨⟨a⟩⟩) = (b == a)
    rw [Bool.eq_iff_iff, beq_iff_eq, beq_iff_eq]
    exact ⟨fun e => by injection e with e; injection e, fun e => by rw [e]⟩
theorem inV_vS {c : Cfg} {Z : Addr → Prop} {H : Hp} {x : D} (hx : flatD x = true) : ∀ {ds : List D} {vs : List V}, Reps c Z H ds vs → ds.all flatD = true → vs.all flatV = true ∧ inV (vS x) vs = ds.any fun y => eqF y x
  | _, _, .nil, _ => ⟨rfl, rfl⟩
  | d :: ds, v :: vs, .cons h t, hd => by
    rw [List.all_cons, Bool.and_eq_true] at hd
    obtain ⟨h1, h2⟩ := inV_vS hx t hd.2
    have e := h.flat hd.1
    subst e
    refine ⟨by rw [List.all_cons, flatV_vS hd.1, h1]; rfl, ?_⟩
    unfold inV at h2 ⊢
    rw [List.any_cons, List.any_cons, h2, eqV_vS hx hd.1]
theorem scal_of {x y : D} (h : scalD x y = true) : scal (vS x) (vS y) = true ∧ decide (vS x = vS y) = eqS x y ∧ flatD x = true ∧ flatD y = true := by
  cases x <;> cases y <;> first | (exact absurd h Bool.false_ne_true) | skip
  all_goals (refine ⟨rfl, ?_, rfl, rfl⟩; simp [vS, eqS])
section
variable {X : Cx} {O : OpT}
def copIs : Cop → CmpOp
  | .eq => .Eq | .ne => .NotEq | .lt => .Lt | .le => .LtE | .gt => .Gt | .ge => .GtE | .isn => .Is | .isnt => .IsNot | .mem => .In | .nmem => .NotIn
def rCmp (c : Cfg) (f : D → D → Rs Bool) : R2 := fun x y H Q => ∃ (Z : Addr → Prop) (H0 : Hp) (a b : Fl × D) (r : Bool), (∀ a, Z a → H0 a ≠ none) ∧ Same H0 H ∧ RepF c Z H0 H a x ∧ RepF c Z H0 H b y ∧ f a.2 b.2 = .ok r ∧ Q (.bl r) H
theorem isl_of {pins : List (Addr × Obj)} {σ : L2.St} {H : Hp} {s : Shared} {p : Addr} {vs : List V} {v : Value} (I : Inv X pins σ H s) (rx : RelV (.ref p) v) (hq : SqL X.K H p vs) : ∃ its : List Value, v = .ref p ∧ s.heap.IsList p its.toArray ∧ its.length = vs.length := by
  cases rx
  obtain ⟨its, rv, pl, hz⟩ := I.list hq
  refine ⟨its, rfl, ?_, rv.length.symm⟩
  obtain ⟨o, m, e, c, d, q⟩ := pl
  exact ⟨o, e, c, m, q⟩
theorem eqD_len {a b : D} {r : Bool} (e : lenE a b = .ok r) : ∃ x xs, a = .lst (x :: xs) ∧ b = .lst [] ∧ r = false := by
  unfold lenE at e
  split at e
  · cases e; exact ⟨_, _, rfl, rfl, rfl⟩
  · cases e
theorem op_eqX (hu : X.A.units + 64 < cLine) : OpR X (compareOp .Eq) (rCmp (cfg X O) eqD) := by
  intro pins s σ H x y v u Q I rx ry h
  obtain ⟨Z, H0, ⟨fa, a⟩, ⟨fb, b⟩, r, hz, s0, ra, rb, e, q⟩ := h
  change eqD a b = Rs.ok r at e
  unfold eqD at e
  split at e
  · rename_i hs
    cases e
    obtain ⟨h1, h2, h3, h4⟩ := scal_of hs
    have ea := ra.flat h3; have eb := rb.flat h4; subst ea eb
    exact op_eq pins s σ H _ _ v u Q I rx ry ⟨h1, by rw [h2]; exact q⟩
  · split at e
    · rename_i hs
      cases e
      rw [Bool.and_eq_true] at hs
      exact op_eqD hu pins s σ H _ _ v u Q I rx ry ⟨_, _, ra.dp hs.1, rb.dp hs.2, hs.1, hs.2, q⟩
    · obtain ⟨d, ds, rfl, rfl, rfl⟩ := eqD_len e
      obtain ⟨p1, vs1, rfl, q1, r1⟩ := ra.lst
      obtain ⟨p2, vs2, rfl, q2, r2⟩ := rb.lst
      obtain ⟨i1, rfl, l1, n1⟩ := isl_of I rx q1
      obtain ⟨i2, rfl, l2, n2⟩ := isl_of I ry q2
      have m1 := r1.length
      have m2 := r2.length
      rw [List.length_cons] at m1
      rw [List.length_nil] at m2
      refine PySem.SeqAt.RcAt.lists_lengths l1 l2 ?_ (by omega) _ _ _ _ ⟨.bl false, H, I, rfl, q⟩
      rw [List.size_toArray, List.size_toArray, bne_iff_ne]
      omega
theorem op_neX (hu : X.A.units + 64 < cLine) : OpR X (compareOp .NotEq) (rCmp (cfg X O) fun x y => (eqD x y).bind fun b => .ok (!b)) := by
  intro pins s σ H x y v u Q I rx ry h
  obtain ⟨Z, H0, ⟨fa, a⟩, ⟨fb, b⟩, r, hz, s0, ra, rb, e, q⟩ := h
  change (eqD a b).bind (fun b => Rs.ok (!b)) = Rs.ok r at e
  unfold eqD at e
  split at e
  · rename_i hs
    cases e
    obtain ⟨h1, h2, h3, h4⟩ := scal_of hs
    have ea := ra.flat h3; have eb := rb.flat h4; subst ea eb
    exact op_ne pins s σ H _ _ v u Q I rx ry ⟨h1, by rw [h2]; exact q⟩
  · split at e
    · rename_i hs
      cases e
      rw [Bool.and_eq_true] at hs
      exact op_neD hu pins s σ H _ _ v u Q I rx ry ⟨_, _, ra.dp hs.1, rb.dp hs.2, hs.1, hs.2, q⟩
    · cases e2 : lenE a b with
      | no => rw [e2] at e; cases e
      | ex n fs => rw [e2] at e; cases e
      | ok r0 =>
        rw [e2] at e
        obtain ⟨d, ds, rfl, rfl, rfl⟩ := eqD_len e2
        cases e
        obtain ⟨p1, vs1, rfl, q1, r1⟩ := ra.lst
        obtain ⟨p2, vs2, rfl, q2, r2⟩ := rb.lst
        obtain ⟨i1, rfl, l1, n1⟩ := isl_of I rx q1
        obtain ⟨i2, rfl, l2, n2⟩ := isl_of I ry q2
        have m1 := r1.length
        have m2 := r2.length
        rw [List.length_cons] at m1
        rw [List.length_nil] at m2
        refine PySem.SeqAt.RcNeAt.lists_lengths l1 l2 ?_ (by omega) _ _ _ _ ⟨.bl true, H, I, rfl, q⟩
        rw [List.size_toArray, List.size_toArray, bne_iff_ne]
        omega
theorem op_gt_strX : OpR X (compareOp .Gt) (fun x y H Q => ∃ i j, x = .str i ∧ y = .str j ∧ Q (.bl (decide (j.cps.toList < i.cps.toList))) H) := op_gt_str
theorem isn_of {c : Cfg} {Z : Addr → Prop} {H0 H : Hp} {f : Fl} {d : D} {v : V} (h : RepF c Z H0 H (f, d) v) : decide (v = .non) = isNon d := by
  cases d with
  | non => rw [h.non]; rfl
  | bl b => rw [h.bl]; rfl
  | int i => rw [h.int]; rfl
  | str s => rw [h.str]; rfl
  | tup xs => obtain ⟨a, vs, rfl, _⟩ := h.tup; rfl
  | lst xs => obtain ⟨a, vs, rfl, _⟩ := h.lst; rfl
  | dct kvs =>
    cases f with
    | val => cases h <;> rfl
    | tmp => obtain ⟨a, rfl, _⟩ := h; rfl
    | own => obtain ⟨a, rfl, _⟩ := h; rfl
  | opq n cs =>
    cases f with
    | val => cases h; rfl
    | tmp => obtain ⟨a, rfl, _⟩ := h; rfl
    | own => obtain ⟨a, rfl, _⟩ := h; rfl
/-- x in y, x not in y -/
theorem op_memX (hu : X.A.units + 65 < cLine) (neg : Bool) : OpR X (compareOp (if neg = true then .NotIn else .In)) (rCmp (cfg X O) fun x y => (memD x y).bind fun b => .ok (if neg = true then !b else b)) := by
  intro pins s σ H x y v u Q I rx ry h
  obtain ⟨Z, H0, ⟨fa, a⟩, ⟨fb, b⟩, r, hz, s0, ra, rb, e, q⟩ := h
  change (memD a b).bind (fun b => Rs.ok (if neg = true then !b else b)) = Rs.ok r at e
  unfold memD at e
  split at e
  · split at e
    · cases e
      have ea := ra.str; have eb := rb.str; subst ea eb
      cases neg with
      | true => exact op_notIn_sign pins s σ H _ _ v u Q I rx ry ⟨_, _, rfl, rfl, q⟩
      | false => exact op_in_sign pins s σ H _ _ v u Q I rx ry ⟨_, _, rfl, rfl, q⟩
    · cases e
  · obtain ⟨p, vs, rfl, hl, hr⟩ := rb.lst
    split at e
    · rename_i hf
      cases e
      rw [Bool.and_eq_true] at hf
      have ea := ra.flat hf.1; subst ea
      obtain ⟨h1, h2⟩ := inV_vS hf.1 hr hf.2
      cases neg with
      | true => exact op_notIn_seq pins s σ H _ _ v u Q I rx ry ⟨p, vs, rfl, .inl hl, flatV_vS hf.1, h1, by rw [if_pos rfl, h2]; exact q⟩
      | false => exact op_in_seq pins s σ H _ _ v u Q I rx ry ⟨p, vs, rfl, .inl hl, flatV_vS hf.1, h1, by rw [if_neg Bool.false_ne_true, h2]; exact q⟩
    · split at e
      · rename_i hs
        cases e
        rw [Bool.and_eq_true] at hs
        cases neg with
        | true => exact op_notInD hu pins s σ H _ _ v u Q I rx ry ⟨_, _, ra.dp hs.1, rb.dp hs.2, hs.1, hs.2, by rw [if_pos rfl] at q; exact q⟩
        | false => exact op_inD hu pins s σ H _ _ v u Q I rx ry ⟨_, _, ra.dp hs.1, rb.dp hs.2, hs.1, hs.2, by rw [if_neg Bool.false_ne_true] at q; exact q⟩
      · cases e
  · obtain ⟨p, vs, rfl, hl, hr⟩ := rb.tup
    split at e
    · rename_i hf
      cases e
      rw [Bool.and_eq_true] at hf
      have ea := ra.flat hf.1; subst ea
      obtain ⟨h1, h2⟩ := inV_vS hf.1 hr hf.2
      cases neg with
      | true => exact op_notIn_seq pins s σ H _ _ v u Q I rx ry ⟨p, vs, rfl, .inr hl.sq, flatV_vS hf.1, h1, by rw [if_pos rfl, h2]; exact q⟩
      | false => exact op_in_seq pins s σ H _ _ v u Q I rx ry ⟨p, vs, rfl, .inr hl.sq, flatV_vS hf.1, h1, by rw [if_neg Bool.false_ne_true, h2]; exact q⟩
    · cases e
  · split at e
    · rename_i kvs hk
      cases e
      unfold keysOk at hk
      rw [Bool.or_eq_true] at hk
      rcases hk with hk | hk
      rotate_left
      · unfold keysT at hk
        rw [Bool.and_eq_true] at hk
        obtain ⟨ks, l, rfl, hl, hdp⟩ := tupKey_of hk.1
        obtain ⟨a', us, rfl, rk, ph⟩ := dict_valT (O := O) I rb hk.2
        obtain rfl : u = Value.ref a' := ry
        obtain ⟨q0, rfl, kq⟩ := ra.tupv
        obtain rfl : v = Value.ref q0 := rx
        have ki : (nestedKind X.prog X.w).is s.heap l q0 := ⟨key_is I kq hl rfl, hdp⟩
        have es : (atKey us l).isSome = (dGet kvs (.tup ks)).isSome := by
          rcases RepT.val hl rk with ⟨d, v', u', q', g1, g2, _⟩ | ⟨g1, g2⟩ <;> rw [g1, g2] <;> rfl
        cases neg with
        | true =>
          refine wpAny_notIn_heap (room_T (Nat.lt_of_succ_lt hu)) ki ph.2.1 (dictH I rk ph) ⟨.bl _, H, I.tok _, rfl, ?_⟩
          rw [es]; exact q
        | false =>
          refine wpAny_in_heap (room_T (Nat.lt_of_succ_lt hu)) ki ph.2.1 (dictH I rk ph) ⟨.bl _, H, I.tok _, rfl, ?_⟩
          rw [es]; exact q
      obtain ⟨l, hl⟩ := leafy_of (keysL_leafy hk).1
      obtain ⟨a', us, rfl, rk, ph0⟩ := dict_val (O := O) I rb (keysL_leafy hk).2
      obtain ⟨hz, hd, dd⟩ := rk.phK hk ph0
      cases ry
      have ki := leaf_is (P := X.prog) (w := X.w) hl not_bl (leaf_rep hl ra) rx
      have es : (valueAt us l).isSome = (dGet kvs a).isSome := by
        rcases RepK.val hl rk with ⟨d, v', u', g1, g2, _⟩ | ⟨g1, g2⟩ <;> rw [g1, g2] <;> rfl
      cases neg with
      | true =>
        refine wpAny_notIn_of ki hd dd.mapOf ⟨.bl _, H, I.tok _, rfl, ?_⟩
        rw [es]; exact q
      | false =>
        refine wpAny_in_of ki hd dd.mapOf ⟨.bl _, H, I.tok _, rfl, ?_⟩
        rw [es]; exact q
    · cases e
  · cases e
theorem op_cmp (hu5 : X.A.units + 65 < cLine) (op : Cop) : OpR X (compareOp (copIs op)) (rCmp (cfg X O) (cmpD op)) := by
  have hu : X.A.units + 64 < cLine := Nat.lt_of_succ_lt hu5
  intro pins s σ H x y v u Q I rx ry h
  obtain ⟨Z, H0, ⟨fa, a⟩, ⟨fb, b⟩, r, hz, s0, ra, rb, e, q⟩ := h
  change cmpD op a b = Rs.ok r at e
  have h0 : rCmp (cfg X O) (cmpD op) x y H Q := ⟨Z, H0, (fa, a), (fb, b), r, hz, s0, ra, rb, e, q⟩
  unfold cmpD at e
  split at e
  · exact op_eqX hu pins s σ H _ _ v u Q I rx ry ⟨Z, H0, (fa, a), (fb, b), r, hz, s0, ra, rb, e, q⟩
  · exact op_neX hu pins s σ H _ _ v u Q I rx ry ⟨Z, H0, (fa, a), (fb, b), r, hz, s0, ra, rb, e, q⟩
  · cases e
    have ea := ra.int; have eb := rb.int; subst ea eb
    exact op_lt pins s σ H _ _ v u Q I rx ry ⟨_, _, rfl, rfl, q⟩
  · cases e
    have ea := ra.str; have eb := rb.str; subst ea eb
    exact op_lt_str pins s σ H _ _ v u Q I rx ry ⟨_, _, rfl, rfl, q⟩
  · cases e
    have ea := ra.int; have eb := rb.int; subst ea eb
    exact op_le pins s σ H _ _ v u Q I rx ry ⟨_, _, rfl, rfl, q⟩
  · cases e
    have ea := ra.int; have eb := rb.int; subst ea eb
    exact op_gt pins s σ H _ _ v u Q I rx ry ⟨_, _, rfl, rfl, q⟩
  · cases e
    have ea := ra.str; have eb := rb.str; subst ea eb
    exact op_gt_strX pins s σ H _ _ v u Q I rx ry ⟨_, _, rfl, rfl, q⟩
  · cases e
    have ea := ra.int; have eb := rb.int; subst ea eb
    exact op_ge pins s σ H _ _ v u Q I rx ry ⟨_, _, rfl, rfl, q⟩
  · cases e
    have eb := rb.non; subst eb
    exact op_isN pins s σ H _ _ v u Q I rx ry ⟨rfl, by rw [isn_of ra]; exact q⟩
  · cases e
    have eb := rb.non; subst eb
    refine op_notN pins s σ H _ _ v u Q I rx ry ⟨rfl, ?_⟩
    rw [isn_of ra]; exact q
  · refine op_memX hu5 false pins s σ H _ _ v u Q I rx ry ⟨Z, H0, (fa, a), (fb, b), r, hz, s0, ra, rb, ?_, q⟩
    show (memD a b).bind (fun b => Rs.ok (if false = true then !b else b)) = Rs.ok r
    rw [e]; rfl
  · refine op_memX hu5 true pins s σ H _ _ v u Q I rx ry ⟨Z, H0, (fa, a), (fb, b), r, hz, s0, ra, rb, ?_, q⟩
    exact e
  · cases e
end
/-! ### items -/
section
variable {X : Cx} {O : OpT}
def rIxD (c : Cfg) : R2 := fun x y H Q => ∃ (Z : Addr → Prop) (H0 : Hp) (a b : Fl × D) (r : D), (∀ a, Z a → H0 a ≠ none) ∧ Same H0 H ∧ RepF c Z H0 H a x ∧ RepF c Z H0 H b y ∧ ixD a.2 b.2 = .ok r ∧ ∀ v H', Same H H' → Rep c Z H' r v → Q v H'
theorem atI_reps {c : Cfg} {Z : Addr → Prop} {H : Hp} {ds : List D} {vs : List V} {i : Int} {d : D} (r : Reps c Z H ds vs) (h : atI ds i = some d) : ∃ v, atI vs i = some v ∧ Rep c Z H d v := by
  unfold atI at h ⊢
  rw [← r.length]
  cases e : ixN ds.length i with
  | none => rw [e] at h; cases h
  | some j =>
    rw [e] at h
    exact r.get h
theorem ix_data (hu : X.A.units + 64 < cLine) : IxR X (rIxD (cfg X O)) := by
  intro value slice pins s σ H x y v u Q I rx ry h hs
  obtain ⟨Z, H0, ⟨fa, a⟩, ⟨fb, b⟩, r, hz, s0, ra, rb, e, q⟩ := h
  change ixD a b = Rs.ok r at e
  unfold ixD at e
  split at e
  · have eb := rb.int; subst eb
    obtain ⟨p, vs, rfl, hl, hr⟩ := ra.lst
    split at e
    · rename_i he
      cases e
      obtain ⟨w, h1, h2⟩ := atI_reps hr he
      exact ix_list value slice pins s σ H _ _ v u Q I rx ry ⟨p, vs, _, w, rfl, rfl, hl, h1, q _ _ (Same.refl H) h2⟩ hs
    · cases e
  · have eb := rb.int; subst eb
    obtain ⟨p, vs, rfl, hl, hr⟩ := ra.tup
    split at e
    · rename_i he
      cases e
      obtain ⟨w, h1, h2⟩ := atI_reps hr he
      exact ix_tup value slice pins s σ H _ _ v u Q I rx ry ⟨p, vs, _, w, rfl, rfl, hl.sq, h1, q _ _ (Same.refl H) h2⟩ hs
    · cases e
  · have eb := rb.int; subst eb
    have ea := ra.str; subst ea
    split at e
    · rename_i hz'
      split at e
      · rename_i he
        cases e
        exact ix_str value slice pins s σ H _ _ v u Q I rx ry ⟨_, _, _, rfl, rfl, hz', he, q _ _ (Same.refl H) (.str _)⟩ hs
      · cases e
    · cases e
  · split at e
    · rename_i kvs k hk
      unfold keysOk at hk
      rw [Bool.or_eq_true] at hk
      rcases hk with hk | hk
      rotate_left
      · unfold keysT at hk
        rw [Bool.and_eq_true] at hk
        obtain ⟨ks, l, rfl, hl, hdp⟩ := tupKey_of hk.1
        obtain ⟨a', us, rfl, rk, ph⟩ := dict_valT (O := O) I ra hk.2
        obtain rfl : v = Value.ref a' := rx
        obtain ⟨q0, rfl, kq⟩ := rb.tupv
        obtain rfl : u = Value.ref q0 := ry
        have ki : (nestedKind X.prog X.w).is s.heap l q0 := ⟨key_is I kq hl rfl, hdp⟩
        rcases RepT.val hl rk with ⟨d, v', u', q', g1, g2, g3, g4⟩ | ⟨g1, g2⟩
        · rw [g1] at e
          cases e
          exact tail_any (dictH I rk ph).typeIs slot_dict_getitem.lookup (wpAny_getItem_heap (room_T hu) ki (dictH I rk ph) g2 ⟨v', H, I.tok _, g3, q _ _ (Same.refl H) g4⟩) hs
        · rw [g1] at e; cases e
      obtain ⟨l, hl⟩ := leafy_of (keysL_leafy hk).1
      obtain ⟨a', us, rfl, rk, ph0⟩ := dict_val (O := O) I ra (keysL_leafy hk).2
      obtain ⟨hz', hd, dd⟩ := rk.phK hk ph0
      obtain rfl : v = Value.ref a' := rx
      have ki := leaf_is (P := X.prog) (w := X.w) hl not_bl (leaf_rep hl rb) ry
      rcases RepK.val hl rk with ⟨d, v', u', g1, g2, g3, g4⟩ | ⟨g1, g2⟩
      · rw [g1] at e
        cases e
        exact tail_any dd.typeIs slot_dict_getitem.lookup (wpAny_getItem_of ki dd.mapOf g2 ⟨v', H, I.tok _, g3, q _ _ (Same.refl H) g4⟩) hs
      · rw [g1] at e; cases e
    · cases e
  · cases e
/-! ### slices -/
def rSlD (c : Cfg) : V → Option Int → Option Int → Hp → VK → Prop := fun x lo hi H Q => ∃ (Z : Addr → Prop) (H0 : Hp) (a r : Fl × D), (∀ a, Z a → H0 a ≠ none) ∧ Same H0 H ∧ RepF c Z H0 H a x ∧ slD a.2 lo hi = .ok r ∧ ∀ v H', Same H H' → RepF c Z H0 H' r v → Q v H'
theorem reps_cut {c : Cfg} {Z : Addr → Prop} {H : Hp} {ds : List D} {vs : List V} (r : Reps c Z H ds vs) (lo hi : Option Int) : Reps c Z H (cutD ds lo hi) (cutV vs lo hi) := by
  unfold cutD cutV
  rw [r.length]
  exact (r.drop _).take _
theorem sl_data : SlR X (rSlD (cfg X O)) := by
  intro pins s σ H x v vl vu lo hi sl Q I rx hs pl pu h
  obtain ⟨Z, H0, ⟨fa, a⟩, r, hz, s0, ra, e, q⟩ := h
  change slD a lo hi = Rs.ok r at e
  unfold slD at e
  split at e
  · cases e
    obtain ⟨p, vs, rfl, hl, hr⟩ := ra.lst
    refine sl_list pins s σ H _ v vl vu lo hi sl Q I rx hs pl pu ⟨p, vs, rfl, hl, fun p np => ?_⟩
    obtain ⟨k1, k2⟩ := newL s0 np (reps_cut hr lo hi)
    exact q _ _ k1 k2
  · have ea := ra.str; subst ea
    split at e
    · rename_i hz'
      cases e
      exact sl_str pins s σ H _ v vl vu lo hi sl Q I rx hs pl pu ⟨_, rfl, hz', q _ _ (Same.refl H) RepF.mkS⟩
    · cases e
  · split at e
    · cases e
    · rename_i hn
      cases e
      obtain ⟨p, vs, rfl, hl, hr⟩ := ra.tup
      rw [hr.length] at hn
      refine sl_tup pins s σ H _ v vl vu lo hi sl Q I rx hs pl pu ⟨p, vs, rfl, hl.sq, hn, fun p np => ?_⟩
      obtain ⟨k1, k2⟩ := newT (c := cfg X O) hz s0 np (reps_cut hr lo hi)
      exact q _ _ k1 k2
  · cases e
end
/-! ### built-in functions -/
theorem reps_intsOf {c : Cfg} {Z : Addr → Prop} {H : Hp} : ∀ {ds : List D} {vs : List V} {ns : List Int}, Reps c Z H ds vs → intsOf ds = some ns → vs = ns.map V.int
  | [], _, _, .nil, e => by cases e; rfl
  | d :: ds, _, ns, .cons h t, e => by
    cases d with
    | int i =>
      simp only [intsOf, Option.map_eq_some_iff] at e
      obtain ⟨ms, e1, rfl⟩ := e
      cases h
      rw [reps_intsOf t e1]; rfl
    | _ => simp [intsOf] at e
theorem reps_blsOf {c : Cfg} {Z : Addr → Prop} {H : Hp} : ∀ {ds : List D} {vs : List V} {ns : List Bool}, Reps c Z H ds vs → blsOf ds = some ns → vs = ns.map V.bl
  | [], _, _, .nil, e => by cases e; rfl
  | d :: ds, _, ns, .cons h t, e => by
    cases d with
    | bl i =>
      simp only [blsOf, Option.map_eq_some_iff] at e
      obtain ⟨ms, e1, rfl⟩ := e
      cases h
      rw [reps_blsOf t e1]; rfl
    | _ => simp [blsOf] at e
theorem reps_strsOf {c : Cfg} {Z : Addr → Prop} {H : Hp} : ∀ {ds : List D} {vs : List V} {ns : List (List Nat)}, Reps c Z H ds vs → strsOf ds = some ns → vs = (ns.map fun s => (⟨⟨s⟩⟩ : PySem.Str)).map V.str
  | [], _, _, .nil, e => by cases e; rfl
  | d :: ds, _, ns, .cons h t, e => by
    cases d with
    | str i =>
      simp only [strsOf, Option.map_eq_some_iff] at e
      obtain ⟨ms, e1, rfl⟩ := e
      cases h
      rw [reps_strsOf t e1]; rfl
    | _ => simp [strsOf] at e
theorem foldl_max (l : List Int) : ∀ x : Int, (l.foldl (fun a b => if a < b then b else a) x = x ∨ l.foldl (fun a b => if a < b then b else a) x ∈ l) ∧ x ≤ l.foldl (fun a b => if a < b then b else a) x ∧ ∀ y ∈ l, y ≤ l.foldl (fun a b => if a < b then b else a) x := by
  induction l with
  | nil => intro x; exact ⟨.inl rfl, Int.le_refl _, fun y h => by cases h⟩
  | cons a l ih =>
    intro x
    rw [List.foldl_cons]
    obtain ⟨h1, h2, h3⟩ := ih (if x < a then a else x)
    refine ⟨?_, ?_, fun y hy => ?_⟩
    · rcases h1 with h1 | h1
      · by_cases q : x < a
        · right; rw [h1, if_pos q]; exact List.mem_cons_self
        · left; rw [h1, if_neg q]
      · right; exact List.mem_cons_of_mem _ h1
    · by_cases q : x < a
      · rw [if_pos q] at h2 ⊢; omega
      · rw [if_neg q] at h2 ⊢; omega
    · rcases List.mem_cons.mp hy with e | hy
      · subst e
        by_cases q : x < y
        · rw [if_pos q] at h2 ⊢; omega
        · rw [if_neg q] at h2 ⊢; omega
      · exact h3 y hy
theorem foldl_min (l : List Int) : ∀ x : Int, (l.foldl (fun a b => if b < a then b else a) x = x ∨ l.foldl (fun a b => if b < a then b else a) x ∈ l) ∧ l.foldl (fun a b => if b < a then b else a) x ≤ x ∧ ∀ y ∈ l, l.foldl (fun a b => if b < a then b else a) x ≤ y := by
  induction l with
  | nil => intro x; exact ⟨.inl rfl, Int.le_refl _, fun y h => by cases h⟩
  | cons a l ih =>
    intro x
    rw [List.foldl_cons]
    obtain ⟨h1, h2, h3⟩ := ih (if a < x then a else x)
    refine ⟨?_, ?_, fun y hy => ?_⟩
    · rcases h1 with h1 | h1
      · by_cases q : a < x
        · right; rw [h1, if_pos q]; exact List.mem_cons_self
        · left; rw [h1, if_neg q]
      · right; exact List.mem_cons_of_mem _ h1
    · by_cases q : a < x
      · rw [if_pos q] at h2 ⊢; omega
      · rw [if_neg q] at h2 ⊢; omega
    · rcases List.mem_cons.mp hy with e | hy
      · subst e
        by_cases q : y < x
        · rw [if_pos q] at h2 ⊢; omega
        · rw [if_neg q] at h2 ⊢; omega
      · exact h3 y hy
theorem maxL_ok {ns : List Int} {m : Int} (h : maxL ns = some m) : m ∈ ns ∧ ∀ y ∈ ns, y ≤ m := by
  cases ns with
  | nil => cases h
  | cons x r =>
    have e : r.foldl (fun a b => if a < b then b else a) x = m := Option.some.inj h
    obtain ⟨h1, h2, h3⟩ := foldl_max r x
    rw [e] at h1 h2 h3
    refine ⟨?_, fun y hy => ?_⟩
    · rcases h1 with h1 | h1
      · rw [h1]; exact List.mem_cons_self
      · exact List.mem_cons_of_mem _ h1
    · rcases List.mem_cons.mp hy with e | hy
      · rw [e]; exact h2
      · exact h3 y hy
theorem minL_ok {ns : List Int} {m : Int} (h : minL ns = some m) : m ∈ ns ∧ ∀ y ∈ ns, m ≤ y := by
  cases ns with
  | nil => cases h
  | cons x r =>
    have e : r.foldl (fun a b => if b < a then b else a) x = m := Option.some.inj h
    obtain ⟨h1, h2, h3⟩ := foldl_min r x
    rw [e] at h1 h2 h3
    refine ⟨?_, fun y hy => ?_⟩
    · rcases h1 with h1 | h1
      · rw [h1]; exact List.mem_cons_self
      · exact List.mem_cons_of_mem _ h1
    · rcases List.mem_cons.mp hy with e | hy
      · rw [e]; exact h2
      · exact h3 y hy
theorem maxL_pos {ns : List Int} {m : Int} (h : maxL ns = some m) : 0 < ns.length := by
  cases ns with
  | nil => cases h
  | cons x r => exact Nat.succ_pos _
theorem minL_pos {ns : List Int} {m : Int} (h : minL ns = some m) : 0 < ns.length := by
  cases ns with
  | nil => cases h
  | cons x r => exact Nat.succ_pos _
section
variable {X : Cx} {O : OpT}
/-- a call of a built-in, told by f of the arguments' data -/
def rBi (c : Cfg) (f : List D → Rs (Fl × D)) : List V → Hp → VK → Prop := fun vs H Q => ∃ (Z : Addr → Prop) (H0 : Hp) (xs : List (Fl × D)) (r : Fl × D), (∀ a, Z a → H0 a ≠ none) ∧ Same H0 H ∧ RepsF c Z H0 H xs vs ∧ f (xs.map (·.2)) = .ok r ∧ ∀ v H', Same H H' → RepF c Z H0 H' r v → Q v H'
/-- what stands for the built-in -/
def bfVal : Bf → Value
  | .len => .builtin "len" | .tuple => .type "tuple" | .list => .type "list" | .max => .builtin "max" | .min => .builtin "min" | .int => .type "int" | .sum => .builtin "sum"
  | .any => .builtin "any" | .all => .builtin "all" | .abs => .builtin "abs" | .divmod => .builtin "divmod"
  | .isBool => .builtin "isinstance" | .isInt => .builtin "isinstance" | .isStr => .builtin "isinstance" | .isTup => .builtin "isinstance" | .isLst => .builtin "isinstance" | .sortedI => .builtin "sorted"
theorem map1 {xs : List (Fl × D)} {d : D} (h : xs.map (·.2) = [d]) : ∃ f, xs = [(f, d)] := by
  cases xs with
  | nil => cases h
  | cons x r =>
    cases r with
    | nil => obtain ⟨f, d'⟩ := x; simp at h; exact ⟨f, by rw [h]⟩
    | cons y r => simp at h
theorem map2 {xs : List (Fl × D)} {d e : D} (h : xs.map (·.2) = [d, e]) : ∃ f g, xs = [(f, d), (g, e)] := by
  cases xs with
  | nil => cases h
  | cons x r =>
    cases r with
    | nil => simp at h
    | cons y r =>
      cases r with
      | nil => obtain ⟨f, d'⟩ := x; obtain ⟨g, e'⟩ := y; simp at h; exact ⟨f, g, by rw [h.1, h.2]⟩
      | cons z r => simp at h
theorem RepsF.one {c : Cfg} {Z : Addr → Prop} {H H' : Hp} {x : Fl × D} {vs : List V} (h : RepsF c Z H H' [x] vs) : ∃ v, vs = [v] ∧ RepF c Z H H' x v := by
  cases h with
  | cons h t => cases t; exact ⟨_, rfl, h⟩
theorem RepsF.two {c : Cfg} {Z : Addr → Prop} {H H' : Hp} {x y : Fl × D} {vs : List V} (h : RepsF c Z H H' [x, y] vs) : ∃ v w, vs = [v, w] ∧ RepF c Z H H' x v ∧ RepF c Z H H' y w := by
  cases h with
  | cons h t => cases t with | cons h2 t2 => cases t2; exact ⟨_, _, rfl, h, h2⟩
theorem call_bi (f : Bf) (hc : X.calm = true) (hn : bfVal f ≠ .builtin "isinstance") : CallR X (bfVal f) (rBi (cfg X O) (biD f)) := by
  intro pins s σ H vs us Q I r h
  obtain ⟨Z, H0, xs, res, hz, s0, rs, e, q⟩ := h
  generalize hm : xs.map (·.2) = ds at e
  unfold biD at e
  split at e
  · obtain ⟨g, rfl⟩ := map1 hm
    obtain ⟨v, rfl, rv⟩ := rs.one
    have ev := rv.str; subst ev
    split at e
    · rename_i hl
      cases e
      exact call_len_str pins s σ H _ us Q I r ⟨_, rfl, hl, q _ _ (Same.refl H) RepF.mkI⟩
    · cases e
  · obtain ⟨g, rfl⟩ := map1 hm
    obtain ⟨v, rfl, rv⟩ := rs.one
    obtain ⟨p, ws, rfl, hl, hr⟩ := rv.lst
    cases e
    exact call_len_seq pins s σ H _ us Q I r ⟨p, ws, rfl, .inl hl, by rw [← hr.length]; exact q _ _ (Same.refl H) RepF.mkI⟩
  · obtain ⟨g, rfl⟩ := map1 hm
    obtain ⟨v, rfl, rv⟩ := rs.one
    obtain ⟨p, ws, rfl, hl, hr⟩ := rv.tup
    cases e
    exact call_len_seq pins s σ H _ us Q I r ⟨p, ws, rfl, .inr hl.sq, by rw [← hr.length]; exact q _ _ (Same.refl H) RepF.mkI⟩
  · obtain ⟨g, rfl⟩ := map1 hm
    obtain ⟨v, rfl, rv⟩ := rs.one
    split at e
    · rename_i kvs hk
      cases e
      rw [Bool.or_eq_true] at hk
      rcases hk with hk | hk
      rotate_left
      · obtain ⟨a', us', rfl, rk, ph⟩ := dict_valT (O := O) I rv hk
        obtain ⟨u, rfl, ru⟩ := r.one
        obtain rfl : u = Value.ref a' := ru
        refine call_len_dictH ph.2.1 (dictH I rk ph) (by have := ph.1; rw [sizeLine_eq] at this; omega) ?_
        have q' := q (.int kvs.length) H (Same.refl H) RepF.mkI
        rw [rk.length] at q'
        exact ⟨.int us'.length, H, I.tok _, ⟨_, rfl⟩, q'⟩
      obtain ⟨a', us', rfl, rk, hz', hd, dd⟩ := dict_val (O := O) I rv hk
      obtain ⟨u, rfl, ru⟩ := r.one
      obtain rfl : u = Value.ref a' := ru
      refine call_len_dict hd dd (by rw [sizeLine_eq] at hz'; omega) ?_
      have q' := q (.int kvs.length) H (Same.refl H) RepF.mkI
      rw [rk.length] at q'
      exact ⟨.int us'.length, H, I.tok _, ⟨_, rfl⟩, q'⟩
    · cases e
  · obtain ⟨g, rfl⟩ := map1 hm
    obtain ⟨v, rfl, rv⟩ := rs.one
    obtain ⟨p, ws, rfl, hl, hr⟩ := rv.lst
    cases e
    refine call_tuple_of pins s σ H _ us Q I r ⟨p, ws, rfl, .inl ⟨hl, fun l nl => ?_⟩⟩
    obtain ⟨k1, k2⟩ := newT hz s0 nl hr
    exact q _ _ k1 k2
  · obtain ⟨g, rfl⟩ := map1 hm
    obtain ⟨v, rfl, rv⟩ := rs.one
    obtain ⟨p, ws, rfl, hl, hr⟩ := rv.lst
    cases e
    refine call_list_of pins s σ H _ us Q I r ⟨p, ws, rfl, .inl hl, fun l nl => ?_⟩
    obtain ⟨k1, k2⟩ := newL s0 nl hr
    exact q _ _ k1 k2
  · obtain ⟨g, rfl⟩ := map1 hm
    obtain ⟨v, rfl, rv⟩ := rs.one
    obtain ⟨p, ws, rfl, hl, hr⟩ := rv.tup
    cases e
    refine call_list_of pins s σ H _ us Q I r ⟨p, ws, rfl, .inr hl.sq, fun l nl => ?_⟩
    obtain ⟨k1, k2⟩ := newL s0 nl hr
    exact q _ _ k1 k2
  · obtain ⟨g, rfl⟩ := map1 hm
    obtain ⟨v, rfl, rv⟩ := rs.one
    obtain ⟨p, ws, rfl, hl, hr⟩ := rv.lst
    split at e
    · rename_i ns hns
      split at e
      · rename_i m hm'
        cases e
        have ew := reps_intsOf hr hns; subst ew
        obtain ⟨k1, k2⟩ := maxL_ok hm'
        refine cr_max hc pins s σ H _ us Q I r ⟨p, ns, rfl, hl, maxL_pos hm', fun m' h1 h2 => ?_⟩
        have em : m' = m := by have := k2 m' h1; have := h2 m k1; omega
        subst em
        exact q _ _ (Same.refl H) RepF.mkI
      · cases e
    · cases e
  · obtain ⟨g, rfl⟩ := map1 hm
    obtain ⟨v, rfl, rv⟩ := rs.one
    obtain ⟨p, ws, rfl, hl, hr⟩ := rv.lst
    split at e
    · rename_i ns hns
      split at e
      · rename_i m hm'
        cases e
        have ew := reps_intsOf hr hns; subst ew
        obtain ⟨k1, k2⟩ := minL_ok hm'
        refine cr_min hc pins s σ H _ us Q I r ⟨p, ns, rfl, hl, minL_pos hm', fun m' h1 h2 => ?_⟩
        have em : m' = m := by have := k2 m' h1; have := h2 m k1; omega
        subst em
        exact q _ _ (Same.refl H) RepF.mkI
      · cases e
    · cases e
  · obtain ⟨g, g2, rfl⟩ := map2 hm
    obtain ⟨v, w, rfl, rv, rw'⟩ := rs.two
    have e1 := rv.int; have e2 := rw'.int; subst e1 e2
    cases e
    exact call_max2 hc pins s σ H _ us Q I r ⟨_, _, rfl, q _ _ (Same.refl H) RepF.mkI⟩
  · obtain ⟨g, g2, rfl⟩ := map2 hm
    obtain ⟨v, w, rfl, rv, rw'⟩ := rs.two
    have e1 := rv.int; have e2 := rw'.int; subst e1 e2
    cases e
    exact call_min2 hc pins s σ H _ us Q I r ⟨_, _, rfl, q _ _ (Same.refl H) RepF.mkI⟩
  · obtain ⟨g, rfl⟩ := map1 hm
    obtain ⟨v, rfl, rv⟩ := rs.one
    have e1 := rv.int; subst e1
    cases e
    exact call_int1 pins s σ H _ us Q I r (.inl ⟨_, rfl, q _ _ (Same.refl H) RepF.mkI⟩)
  · obtain ⟨g, rfl⟩ := map1 hm
    obtain ⟨v, rfl, rv⟩ := rs.one
    have e1 := rv.bl; subst e1
    cases e
    exact call_int1 pins s σ H _ us Q I r (.inr ⟨_, rfl, q _ _ (Same.refl H) RepF.mkI⟩)
  · obtain ⟨g, rfl⟩ := map1 hm
    obtain ⟨v, rfl, rv⟩ := rs.one
    obtain ⟨p, ws, rfl, hl, hr⟩ := rv.lst
    split at e
    · rename_i ns hns
      cases e
      have ew := reps_intsOf hr hns; subst ew
      exact cr_sum hc pins s σ H _ us Q I r ⟨p, ns, rfl, hl, q _ _ (Same.refl H) RepF.mkI⟩
    · cases e
  · obtain ⟨g, rfl⟩ := map1 hm
    obtain ⟨v, rfl, rv⟩ := rs.one
    obtain ⟨p, ws, rfl, hl, hr⟩ := rv.lst
    split at e
    · rename_i ns hns
      cases e
      have ew := reps_blsOf hr hns; subst ew
      exact cr_any hc pins s σ H _ us Q I r ⟨p, ns, rfl, hl, q _ _ (Same.refl H) RepF.mkB⟩
    · cases e
  · obtain ⟨g, rfl⟩ := map1 hm
    obtain ⟨v, rfl, rv⟩ := rs.one
    obtain ⟨p, ws, rfl, hl, hr⟩ := rv.lst
    split at e
    · rename_i ns hns
      cases e
      have ew := reps_blsOf hr hns; subst ew
      exact cr_all hc pins s σ H _ us Q I r ⟨p, ns, rfl, hl, q _ _ (Same.refl H) RepF.mkB⟩
    · cases e
  · obtain ⟨g, rfl⟩ := map1 hm
    obtain ⟨v, rfl, rv⟩ := rs.one
    have e1 := rv.int; subst e1
    cases e
    exact call_abs pins s σ H _ us Q I r ⟨_, rfl, q _ _ (Same.refl H) RepF.mkI⟩
  · obtain ⟨g, g2, rfl⟩ := map2 hm
    obtain ⟨v, w, rfl, rv, rw'⟩ := rs.two
    have e1 := rv.int; have e2 := rw'.int; subst e1 e2
    split at e
    · rename_i hd
      cases e
      refine call_divmod pins s σ H _ us Q I r ⟨_, _, rfl, hd, fun p np => ?_⟩
      obtain ⟨k1, k2⟩ := newT (c := cfg X O) (ds := [.int _, .int _]) (vs := [.int _, .int _]) hz s0 np (.cons (.int _) (.cons (.int _) .nil))
      exact q _ _ k1 k2
    · cases e
  · exact absurd rfl hn
  · exact absurd rfl hn
  · exact absurd rfl hn
  · exact absurd rfl hn
  · exact absurd rfl hn
  · cases e
/-! ### isinstance of data -/
def bfType : Bf → String
  | .isBool => "bool" | .isInt => "int" | .isStr => "str" | .isTup => "tuple" | .isLst => "list" | _ => ""
/-- the type of data -/
def tyD : D → Option String
  | .non => some "NoneType" | .bl _ => some "bool" | .int _ => some "int" | .str _ => some "str" | .tup _ => some "tuple" | .lst _ => some "list" | _ => none
theorem SqT.tyx {K : PySem.W.Frag} {H : Hp} {a : Addr} {vs : List V} (h : SqT K H a vs) : TyX K H (.ref a) (.type "tuple") := by
  rcases h with (h | ⟨o, h⟩) | ⟨o, its, n, h1, h2, _⟩
  · exact .base (.tup h)
  · exact .fTuple h
  · exact .kTuple h1 h2
theorem SqL.tyx {K : PySem.W.Frag} {H : Hp} {a : Addr} {vs : List V} (h : SqL K H a vs) : TyX K H (.ref a) (.type "list") := by
  rcases h with (h | ⟨o, h⟩) | ⟨o, its, n, h1, h2, _⟩
  · exact .base (.lst h)
  · exact .base (.frz h)
  · exact .kList h1 h2
theorem RepF.tyx {c : Cfg} {Z : Addr → Prop} {H0 H : Hp} {f : Fl} {d : D} {v : V} {T : String} (h : RepF c Z H0 H (f, d) v) (e : tyD d = some T) : TyX c.K H v (.type T) := by
  cases d with
  | non => cases e; rw [h.non]; exact .base .non
  | bl b => cases e; rw [h.bl]; exact .base (.bl b)
  | int b => cases e; rw [h.int]; exact .base (.int b)
  | str b => cases e; rw [h.str]; exact .base (.str _)
  | tup b => cases e; obtain ⟨a, vs, rfl, t, _⟩ := h.tup; exact SqT.tyx t.sq
  | lst b => cases e; obtain ⟨a, vs, rfl, t, _⟩ := h.lst; exact SqL.tyx t
  | dct b => cases e
  | opq n b => cases e
def isTy : Bf → Bool
  | .isBool => true | .isInt => true | .isStr => true | .isTup => true | .isLst => true | _ => false
theorem call_is {K : PySem.W.Frag} {c : Cfg} (f : Bf) (hf : isTy f = true) {Z : Addr → Prop} {H0 H : Hp} {x : Fl × D} {v : V} {r : Fl × D} {Q : VK} (rv : RepF c Z H0 H x v) (e : biD f [x.2] = .ok r) (q : ∀ v H', Same H H' → RepF c Z H0 H' r v → Q v H') :
    rIsi c.K [v, .ty (bfType f)] H Q := by
  obtain ⟨g, d⟩ := x
  have mk : ∀ T b, tyD d = some T → PySem.W.kitOne c.K (.type T) (.type (bfType f)) = some b → r = (.val, .bl b) → rIsi c.K [v, .ty (bfType f)] H Q := fun T b e1 e2 e3 => by
    subst e3
    exact ⟨v, .ty (bfType f), .type T, .type (bfType f), b, rfl, .ty _, rv.tyx e1, e2, q _ _ (Same.refl H) RepF.mkB⟩
  cases f <;> first | (exact absurd hf Bool.false_ne_true) | skip
  all_goals cases d <;> first | (cases e; done) | (exact mk _ _ rfl (kit_ty (by decide +kernel)) (Rs.ok.inj e).symm)
end
end RA
/-! RA5: that an expression of the text is one of the small language, and what it comes to. -/
namespace RA
open PySem PySem.Spec PyProof.Rows L2
/-- what stands fast for a def: the names of its slots, the defs' names by number, the defs that may be called, the constants of the module, the built-ins that are not shadowed -/
structure Stat where
  N : List Str
  nm : Nat → Str
  us : List Nat
  gs : List Nat
  bs : List Str
  F : FT
  k : Nat
  xts : List XT := []
  yts : List YT := []
  trs : List (Str × List Nat × List Nat) := []
def isVis (sc : Scope) (x : Str) : Bool := match sc.names.lookup x with
  | some .local => true | some .cell => true | some .free => true | _ => false
def isGl (sc : Scope) (x : Str) : Bool := match sc.names.lookup x with
  | some .globalImplicit => true | _ => false
def plainN (x : Str) : Bool := !(x == ("__debug__" : Str)) && !(x == ("__classdict__" : Str)) && !decide (x = ("__name__" : Str))
def okV (S : Stat) (sc : Scope) (i : Nat) (x : Str) : Bool := decide (S.N[i]? = some x) && isVis sc x && plainN x
def okK : D → Const → Bool
  | .non, .none => true
  | .bl b, .bool c => b == c
  | .int i, .int j => decide (i = j)
  | .str s, .str x => decide (s = x.cps.toList)
  | _, _ => false
def bopOk : Bop → Operator → Bool := fun a b => decide (bopIs a = b)
def copOk : Cop → CmpOp → Bool := fun a b => decide (copIs a = b)
def bfName : Bf → Str
  | .len => "len" | .tuple => "tuple" | .list => "list" | .max => "max" | .min => "min" | .int => "int" | .sum => "sum" | .any => "any" | .all => "all" | .abs => "abs" | .divmod => "divmod"
  | .isBool => "isinstance" | .isInt => "isinstance" | .isStr => "isinstance" | .isTup => "isinstance" | .isLst => "isinstance" | .sortedI => "sorted"
def tyName : Bf → Str
  | .isBool => "bool" | .isInt => "int" | .isStr => "str" | .isTup => "tuple" | .isLst => "list" | _ => ""
/-- a built-in's name, not shadowed -/
def okB (S : Stat) (sc : Scope) (x y : Str) : Bool := decide (x = y) && isGl sc y && S.bs.contains y && plainN y
def meName : Mf → Str
  | .find => "find" | .join => "join"
/-- a name of the block's own, plain or a cell: it may be stored -/
def stF (sc : Scope) (x : Str) : Bool := decide (sc.names.lookup x = some .local) || decide (sc.names.lookup x = some .cell)
def okTs (S : Stat) (sl : Str → Bool) : List Nat → List Expr → Bool
  | [], [] => true
  | i :: is, .Name x _ :: es => decide (S.N[i]? = some x) && sl x && okTs S sl is es
  | _, _ => false
def okT (S : Stat) (sl : Str → Bool) : Tg → Expr → Bool
  | .one i, .Name x _ => decide (S.N[i]? = some x) && sl x
  | .tup is, .Tuple es _ _ => okTs S sl is es && decide (is.length = es.length)
  | _, _ => false
/-- the names that a comprehension stores, with their slots -/
def ownNames (S : Stat) : Tg → List (Str × Nat)
  | .one i => [((S.N[i]?).getD "", i)]
  | .tup is => is.map fun i => ((S.N[i]?).getD "", i)
/-- what may stand as a test -/
def isTst : IE → Bool
  | .v _ => true | .gl _ => true | .cmp _ _ _ => true | .call _ _ => true | .bi _ _ => true | .ix _ _ => true
  | .and_ x y => isTst x && isTst y
  | .or_ x y => isTst x && isTst y
  | .not_ x => isTst x
  | .xt _ _ => true
  | _ => false
def callN : Expr → Option (Str × List Expr)
  | .Call (.Name y _) es [] _ => some (y, es)
  | _ => none
theorem callN_of {e : Expr} {y : Str} {es : List Expr} (h : callN e = some (y, es)) : ∃ p pos, e = .Call (.Name y p) es [] pos := by
  unfold callN at h
  split at h
  · cases h; exact ⟨_, _, rfl⟩
  · cases h
def isTup : Expr → Bool
  | .Tuple _ _ _ => true
  | _ => false
theorem isTup_of {e : Expr} (h : isTup e = true) : ∃ es k p, e = .Tuple es k p := by
  cases e <;> first | exact ⟨_, _, _, rfl⟩ | cases h
def okTy2 (S : Stat) (sc : Scope) (f : Bf) : List Expr → Bool
  | [_, .Name y _] => okB S sc (tyName f) y
  | _ => false
def isYes : IE → Bool
  | .k (.bl true) => true
  | _ => false
def headE : List Expr → Expr
  | c :: _ => c
  | [] => .Constant .none 0 ⟨0, 0, 0, 0⟩
/-- no call of a name without arguments -/
def notC0 : Expr → Bool
  | .Call (.Name _ _) [] [] _ => false | _ => true
/-- a name or a constant -/
def isNmE : Expr → Bool
  | .Name _ _ => true | .Constant _ _ _ => true | _ => false
/-- a name, a constant, an item of a name at a constant -/
def isNx : Expr → Bool
  | .Name _ _ => true | .Constant _ _ _ => true
  | .Subscript (.Name _ _) (.Constant _ _ _) _ => true
  | _ => false
/-- a tuple of such -/
def isTQ : Expr → Bool
  | .Tuple es _ _ => es.all isNx
  | _ => false
/-- where a further expression may stand -/
def isXt : Expr → Bool
  | .Call _ _ _ _ => true | .Attribute _ _ _ => true | .BinOp _ _ _ _ => true | _ => false
/-- the parts of a further expression -/
def xtDec : XT → Stat → Scope → Expr → Option (List Expr)
  | .isc y _ _, S, sc, .Call (.Name z _) [a, .Name y' _] [] _ => if (okB S sc "isinstance" z && decide (y' = y) && isGl sc y && plainN y) = true then some [a] else none
  | .cat, _, _, .BinOp l .Add r _ => some [l, r]
  | .mk _ x, _, sc, .Call (.Name y _) [] [] _ => if (decide (x = y) && isGl sc y && plainN y) = true then some [] else none
  | .mth m _, _, _, .Call (.Attribute o y apos) es [] cpos => if (decide (m = y) && (apos.endLine == cpos.line) && notC0 o && es.all isNmE && decide (es.length < 30)) = true then some (o :: es) else none
  | .zl3, S, sc, .Call (.Name y _) [.Call (.Name z _) [a, b, c] [] _] [] _ => if (okB S sc "list" y && okB S sc "zip" z) = true then some [a, b, c] else none
  | .ctu, _, _, .BinOp l .Add r _ => some [l, r]
  | .lmu, _, _, .BinOp l .Mult r _ => some [l, r]
  | .stw, _, _, .Call (.Attribute o m apos) [a] [] cpos => if (decide (m = "startswith") && (apos.endLine == cpos.line) && notC0 o && isNmE a) = true then some [o, a] else none
  | .enw, _, _, .Call (.Attribute o m apos) [a] [] cpos => if (decide (m = "endswith") && (apos.endLine == cpos.line) && notC0 o && isNmE a) = true then some [o, a] else none
  | .cot, _, _, .Call (.Attribute o m apos) [a] [] cpos => if (decide (m = "count") && (apos.endLine == cpos.line) && notC0 o && isNmE a) = true then some [o, a] else none
  | .dgt, _, _, .Call (.Attribute o m apos) [a, b] [] cpos => if (decide (m = "get") && (apos.endLine == cpos.line) && notC0 o && isTQ a && isNmE b) = true then some [o, a, b] else none
  | .jrv, S, sc, .Call (.Attribute (.Constant (.str t) _ _) x apos) [.Call (.Name y _) [a] [] _] [] cpos => if (decide ("join" = x) && decide (t = "") && (apos.endLine == cpos.line) && okB S sc "reversed" y) = true then some [a] else none
  | .rgl, S, sc, .Call (.Name y _) [.Call (.Name z _) [a] [] _] [] _ => if (okB S sc "list" y && okB S sc "range" z) = true then some [a] else none
  | .rgt, S, sc, .Call (.Name y _) [.Call (.Name z _) [a] [] _] [] _ => if (okB S sc "tuple" y && okB S sc "range" z) = true then some [a] else none
  | .dvl, S, sc, .Call (.Name y _) [.Call (.Attribute o z apos) [] [] cpos] [] _ => if (okB S sc "list" y && decide (z = "values") && (apos.endLine == cpos.line) && notC0 o) = true then some [o] else none
  | .dkl, S, sc, .Call (.Name y _) [.Name x p] [] _ => if okB S sc "list" y = true then some [.Name x p] else none
  | .cal _, S, sc, .Call (.Name x p) es [] _ => if (isVis sc x && plainN x && !es.isEmpty) = true then some (.Name x p :: es) else none
  | .mkf _ x _, _, sc, .Call (.Name y _) (e :: es) [] _ => if (decide (x = y) && isGl sc y && plainN y) = true then some (e :: es) else none
  | .flo f _, _, _, .Attribute o f' _ => if (decide (f = f') && notC0 o) = true then some [o] else none
  | .fld _ _ f, _, _, .Attribute o f' _ => if (decide (f = f') && notC0 o) = true then some [o] else none
  | _, _, _, _ => none
/-- the parts of a further walk -/
def wkDec : WK → Stat → Scope → Expr → Expr → Option (List Expr)
  | .itm, _, _, tg, .Call (.Attribute o m apos) [] [] cpos => if (isTup tg && decide (m = "items") && (apos.endLine == cpos.line) && notC0 o) = true then some [o] else none
  | _, _, _, _, _ => none
mutual
def okE (S : Stat) : IE → Scope → Expr → Bool
  | .v i, sc, .Name x _ => okV S sc i x
  | .pk i, sc, .Name x _ => okV S sc i x
  | .pv i, sc, .Name x _ => okV S sc i x
  | .k d, _, .Constant c _ _ => okK d c
  | .gl n, sc, .Name x _ => decide (S.nm n = x) && S.gs.contains n && isGl sc x && plainN x
  | .b op x y, sc, .BinOp l o r _ => bopOk op o && okE S x sc l && okE S y sc r
  | .neg x, sc, .UnaryOp .USub e _ => okE S x sc e
  | .cmp op x y, sc, .Compare l [o] [r] _ => copOk op o && okE S x sc l && okE S y sc r
  | .and_ x y, sc, .BoolOp .And (a :: b :: rest) p => okE S x sc a && (if rest.isEmpty = true then okE S y sc b else okE S y sc (.BoolOp .And (b :: rest) p))
  | .or_ x y, sc, .BoolOp .Or (a :: b :: rest) p => okE S x sc a && (if rest.isEmpty = true then okE S y sc b else okE S y sc (.BoolOp .Or (b :: rest) p))
  | .not_ x, sc, .UnaryOp .Not e _ => okE S x sc e
  | .ife t x y, sc, .IfExp t' x' y' _ => isTst t && okE S t sc t' && okE S x sc x' && okE S y sc y'
  | .tup as, sc, .Tuple es _ _ => okA S as sc es
  | .lst as, sc, .List es _ => okA S as sc es
  | .dct .nil .nil, _, .Dict [] [] _ => true
  | .dct (.cons k .nil) (.cons v .nil), sc, .Dict [some kx] [vx] _ => okE S k sc kx && okE S v sc vx
  | .ix x i, sc, .Subscript o e _ => okE S x sc o && okE S i sc e
  | .rv x, sc, .Subscript o (.Slice none none (some (.UnaryOp .USub (.Constant (.int j) _ _) _)) _) _ => decide (j = 1) && okE S x sc o
  | .sl x lo hi, sc, .Subscript o (.Slice l h none _) _ => okE S x sc o && (if l.isNone = true then isOut lo else !isOut lo && okE S lo sc (l.getD (headE []))) && (if h.isNone = true then isOut hi else !isOut hi && okE S hi sc (h.getD (headE [])))
  | .lset x, sc, .Call (.Name y _) [a] [] _ => (match callN a with | some (z, [b]) => okB S sc "len" y && okB S sc "set" z && okE S x sc b | _ => false)
  | .lix x y, sc, .Call (.Attribute e m apos) [a] [] cpos => decide (m = "index") && (apos.endLine == cpos.line) && okE S x sc e && okE S y sc a && notC0 e
  | .bi f as, sc, .Call (.Name x _) es [] _ => okB S sc (bfName f) x && (if isTy f = true then okA S as sc (es.take 1) && okTy2 S sc f es else okA S as sc es && !es.isEmpty)
  | .me m o as, sc, .Call (.Attribute e x apos) es [] cpos => decide (meName m = x) && (apos.endLine == cpos.line) && okE S o sc e && okA S as sc es && decide (es.length = 1) && notC0 e
  | .call n as, sc, .Call (.Name x _) es [] _ => decide (S.nm n = x) && S.us.contains n && isGl sc x && plainN x && okA S as sc es && !es.isEmpty
  | .comp tg it t e, sc, .ListComp elt [⟨tg', iter, ifs, k⟩] scope _ =>
      decide (k = 0) && blkC S.N sc scope (ownNames S tg) && okT S (stF scope) tg tg' && okI S it sc tg' iter && okE S e (relS scope sc) elt &&
        ((ifs.isEmpty && isYes t) || (decide (ifs.length = 1) && isTst t && okE S t (relS scope sc) (headE ifs)))
  | .xt t as, sc, e => S.xts.contains t && isXt e && (match xtDec t S sc e with | some es => okA S as sc es | none => false)
  | _, _, _ => false
termination_by structural x => x
def okA (S : Stat) : IEs → Scope → List Expr → Bool
  | .nil, _, [] => true
  | .cons x as, sc, e :: es => okE S x sc e && okA S as sc es
  | _, _, _ => false
termination_by structural x => x
def okI (S : Stat) : II → Scope → Expr → Expr → Bool
  | .ex x, sc, _, e => okE S x sc e
  | .rng1 x, sc, _, e => (match callN e with | some (y, [a]) => okB S sc "range" y && okE S x sc a | _ => false)
  | .rng2 x z, sc, _, e => (match callN e with | some (y, [a, b]) => okB S sc "range" y && okE S x sc a && okE S z sc b | _ => false)
  | .zip2 x z, sc, tg, e => (match callN e with | some (y, [a, b]) => isTup tg && okB S sc "zip" y && okE S x sc a && okE S z sc b | _ => false)
  | .rev x, sc, _, e => (match callN e with | some (y, [a]) => okB S sc "reversed" y && okE S x sc a | _ => false)
  | .xi w as, sc, tg, e => S.xts.contains (.wk w) && (match wkDec w S sc tg e with | some es => okA S as sc es | none => false)
termination_by structural x => x
end
end RA
/-! RA6: the expressions: what stands in the text comes to what the small language says. -/
namespace RA
open PySem PySem.Spec PyProof.Rows L2
variable [Tabs] [LentT]
/-! ### promises -/
/-- what is handed back: an own new list or dict (o), or a thing -/
def RetF (c : Cfg) (B : Addr → Prop) (H H' : Hp) (o : Bool) (d : D) (v : V) : Prop := RepF c B H H' (if o = true then Fl.own else Fl.val, d) v
/-- a def's promise by its mirror m -/
def spOf (c : Cfg) (m : List D → Rs (Bool × D)) : Sp := fun vs H Q E => ∃ (B : Addr → Prop) (ds : List D), (∀ a, B a → H a ≠ none) ∧ TabsOk H ∧ Reps c B H ds vs ∧ match m ds with
  | .no => False
  | .ok (o, d) => ∀ v H', Same H H' → RetF c B H H' o d v → Q v H'
  | .ex x fs => ∀ cls dd H', Same H H' → ExcAt c B H' x fs cls dd → E cls dd H'
def FOk (c : Cfg) (nm : Nat → Str) (k n : Nat) (m : List D → Rs (Bool × D)) : Prop :=
  ∃ (f : Addr) (fd : FuncData) (ps : List Str), c.mg (nm n) = some (.ref f) ∧ PySem.W.keepIn c.K (.ref f) = true ∧ Binds c.K fd ps [] ∧ FnOk c.P c.w c.K c.mg c.base (L2.CX c.P c.w) k f fd ps (spOf c m)
theorem FOk.mono {c : Cfg} {nm : Nat → Str} {j k n : Nat} {m : List D → Rs (Bool × D)} (h : FOk c nm j n m) (e : j ≤ k) : FOk c nm k n m := by
  obtain ⟨f, fd, ps, h1, h2, h3, h4⟩ := h
  exact ⟨f, fd, ps, h1, h2, h3, h4.mono e⟩
def GlOk (c : Cfg) (nm : Nat → Str) (n : Nat) (r : Rs (Bool × D)) : Prop := ∃ (o : Bool) (d : D) (v : V) (u : Value), r = .ok (o, d) ∧ c.mg (nm n) = some u ∧ RelV v u ∧ ∀ B H, Rep c B H d v
structure CtxB (S : Stat) (X : Cx) (O : OpT) (W : WX) (sc : Scope) : Prop where
  N : X.N = S.N
  nd : X.N.Nodup
  kd : sc.kind = .function
  sc : X.env.scope = sc
  calm : X.calm = true
  room : Room S.k X.A
  tk : Takes X W
  bs : ∀ x, S.bs.contains x = true → X.mg x = none
  fs : ∀ n, S.us.contains n = true → FOk (cfg X O) S.nm S.k n (S.F n)
  gs : ∀ n, S.gs.contains n = true → GlOk (cfg X O) S.nm n (S.F n [])
theorem vis_of {sc : Scope} {x : Str} (h : isVis sc x = true) : Vis sc x := by
  unfold isVis at h
  unfold Vis
  split at h
  · rename_i e; exact .inl e
  · rename_i e; exact .inr (.inl e)
  · rename_i e; exact .inr (.inr e)
  · cases h
theorem gl_of {sc : Scope} {x : Str} (h : isGl sc x = true) : sc.names.lookup x = some .globalImplicit := by
  unfold isGl at h
  split at h
  · assumption
  · cases h
theorem plainN_of {x : Str} (h : plainN x = true) : (x == ("__debug__" : Str)) = false ∧ (x == ("__classdict__" : Str)) = false ∧ x ≠ "__name__" := by
  unfold plainN at h
  simp only [Bool.and_eq_true, Bool.not_eq_true', decide_eq_false_iff_not] at h
  exact ⟨h.1.1, h.1.2, h.2⟩
section
variable {S : Stat} {X : Cx} {O : OpT} {W : WX} {sc : Scope} {B : Addr → Prop} {G : Ev}
theorem CtxB.gl (C : CtxB S X O W sc) {x : Str} (h : isGl sc x = true) : Gl X x := by
  show X.env.scope.names.lookup x = _
  rw [C.sc]; exact gl_of h
theorem CtxB.vis (C : CtxB S X O W sc) {x : Str} (h : isVis sc x = true) : Vis X.env.scope x := by
  rw [C.sc]; exact vis_of h
/-- a name -/
theorem ok_v (C : CtxB S X O W sc) {i : Nat} {x : Str} {p : Pos} (h : okV S sc i x = true) : PE X (.Name x p) (tE (cfg X O) B W G (ev S.F (.v i) G)) := by
  unfold okV at h
  simp only [Bool.and_eq_true, decide_eq_true_eq] at h
  obtain ⟨⟨h1, h2⟩, h3⟩ := h
  obtain ⟨p1, p2, _⟩ := plainN_of h3
  refine (pe_var (i := i) (by rw [C.N]; exact h1) (C.vis h2) p1 p2).weak fun σ H Q ⟨Su, R⟩ => ?_
  simp only [ev] at R
  split at R
  · rename_i d e
    obtain ⟨v, h1, h2⟩ := Su.val i d e
    exact ⟨v, h1, R v H (Same.refl H) h2⟩
  · exact False.elim R
theorem ok_pk (C : CtxB S X O W sc) {i : Nat} {x : Str} {p : Pos} (h : okV S sc i x = true) : PE X (.Name x p) (tE (cfg X O) B W G (ev S.F (.pk i) G)) := by
  unfold okV at h
  simp only [Bool.and_eq_true, decide_eq_true_eq] at h
  obtain ⟨⟨h1, h2⟩, h3⟩ := h
  obtain ⟨p1, p2, _⟩ := plainN_of h3
  refine (pe_var (i := i) (by rw [C.N]; exact h1) (C.vis h2) p1 p2).weak fun σ H Q ⟨Su, R⟩ => ?_
  simp only [ev] at R
  split at R
  · rename_i d e
    obtain ⟨a, h1, h2⟩ := Su.own i d e
    exact ⟨.ref a, h1, R (.ref a) H (Same.refl H) ⟨a, rfl, h2.inn⟩⟩
  · exact False.elim R
theorem ok_pv (C : CtxB S X O W sc) {i : Nat} {x : Str} {p : Pos} (h : okV S sc i x = true) : PE X (.Name x p) (tE (cfg X O) B W G (ev S.F (.pv i) G)) := by
  unfold okV at h
  simp only [Bool.and_eq_true, decide_eq_true_eq] at h
  obtain ⟨⟨h1, h2⟩, h3⟩ := h
  obtain ⟨p1, p2, _⟩ := plainN_of h3
  refine (pe_var (i := i) (by rw [C.N]; exact h1) (C.vis h2) p1 p2).weak fun σ H Q ⟨Su, R⟩ => ?_
  simp only [ev] at R
  split at R
  · rename_i b d e
    cases b with
    | true =>
      obtain ⟨a, h1, h2⟩ := Su.own i d e
      exact ⟨.ref a, h1, R (.ref a) H (Same.refl H) ⟨a, rfl, h2.inn⟩⟩
    | false =>
      obtain ⟨v, h1, h2⟩ := Su.val i d e
      exact ⟨v, h1, R v H (Same.refl H) h2⟩
  · exact False.elim R
theorem ok_k {d : D} {c : Const} {j : Nat} {p : Pos} (h : okK d c = true) : PE X (.Constant c j p) (tE (cfg X O) B W G (ev S.F (.k d) G)) := by
  unfold okK at h
  split at h
  · exact pe_non.weak fun σ H Q ⟨Su, R⟩ => R .non H (Same.refl H) RepF.mkN
  · have e := eq_of_beq h
    subst e
    exact pe_bl.weak fun σ H Q ⟨Su, R⟩ => R (.bl _) H (Same.refl H) RepF.mkB
  · have e := of_decide_eq_true h
    subst e
    exact pe_int.weak fun σ H Q ⟨Su, R⟩ => R (.int _) H (Same.refl H) RepF.mkI
  · have e := of_decide_eq_true h
    subst e
    exact pe_str.weak fun σ H Q ⟨Su, R⟩ => R (.str _) H (Same.refl H) RepF.mkS
  · cases h
theorem ok_gl (C : CtxB S X O W sc) {n : Nat} {x : Str} {p : Pos} (h : (decide (S.nm n = x) && S.gs.contains n && isGl sc x && plainN x) = true) : PE X (.Name x p) (tE (cfg X O) B W G (ev S.F (.gl n) G)) := by
  simp only [Bool.and_eq_true, decide_eq_true_eq] at h
  obtain ⟨⟨⟨h1, h2⟩, h3⟩, h4⟩ := h
  obtain ⟨o, d, v, u, e, hm, r, hr⟩ := C.gs n h2
  refine (pe_glob (C.gl h3) (by rw [← h1]; exact hm) r (plainN_of h4).1).weak fun σ H Q ⟨Su, R⟩ => ?_
  simp only [ev, e] at R
  exact R v H (Same.refl H) (hr _ _)
/-- two parts, then a thing of both -/
theorem two_read {c : Cfg} {ra rb : Rs (Fl × D)} {k : Fl × D → Fl × D → Rs (Fl × D)} {σ : L2.St} {H : Hp} {Q : VK} {T : V → V → Hp → Prop}
    (h : tE c B W G (ra.bind fun a => rb.bind fun b => k a b) σ H Q)
    (q : ∀ a b x y H1 H2, ra = .ok a → rb = .ok b → Same H H1 → Same H1 H2 → StOk c B G σ H2 → (∀ z, Zof B G σ z → H z ≠ none) → RepF c (Zof B G σ) H H2 a x → RepF c (Zof B G σ) H H2 b y → ResE c B (Zof B G σ) W σ H (k a b) Q → T x y H2) :
    tE c B W G ra σ H fun x H1 => tE c B W G rb σ H1 fun y H2 => T x y H2 := by
  obtain ⟨Su, R⟩ := h
  cases ra with
  | no => exact False.elim R
  | ex x fs => exact ⟨Su, R⟩
  | ok a =>
    refine ⟨Su, fun v H1 s1 rv => ⟨Su.same s1, ?_⟩⟩
    cases rb with
    | no => exact False.elim R
    | ex x fs => exact fun cls dd H' s' e' => R cls dd H' (s1.trans s') e'
    | ok b => exact fun w H2 s2 rw' => q a b v w H1 H2 rfl rfl s1 s2 ((Su.same s1).same s2) Su.ztr (rv.mono s2) (rw'.back s1) R
theorem one_read {c : Cfg} {ra : Rs (Fl × D)} {k : Fl × D → Rs (Fl × D)} {σ : L2.St} {H : Hp} {Q : VK} {T : V → Hp → Prop}
    (h : tE c B W G (ra.bind fun a => k a) σ H Q)
    (q : ∀ a x H1, ra = .ok a → Same H H1 → StOk c B G σ H1 → (∀ z, Zof B G σ z → H z ≠ none) → RepF c (Zof B G σ) H H1 a x → ResE c B (Zof B G σ) W σ H (k a) Q → T x H1) :
    tE c B W G ra σ H fun x H1 => T x H1 := by
  obtain ⟨Su, R⟩ := h
  cases ra with
  | no => exact False.elim R
  | ex x fs => exact ⟨Su, R⟩
  | ok a => exact ⟨Su, fun v H1 s1 rv => q a v H1 rfl s1 (Su.same s1) Su.ztr rv R⟩
/-- from the heap behind -/
theorem ResE.later {c : Cfg} {Z : Addr → Prop} {σ : L2.St} {H H1 : Hp} {r : Rs (Fl × D)} {Q : VK} (h : ResE c B Z W σ H r Q) (s : Same H H1) : ResE c B Z W σ H1 r Q := by
  cases r with
  | no => exact h
  | ok x => exact fun v H' s' rv => h v H' (s.trans s') (rv.back s)
  | ex x fs => exact fun cls dd H' s' e => h cls dd H' (s.trans s') e
theorem binD_ex (op : Bop) (x y : D) (n : Nat) (fs : List D) : binD op x y ≠ .ex n fs := by
  intro e
  unfold binD at e
  split at e
  all_goals first | cases e | (split at e <;> cases e)
theorem ok_b {op : Bop} {o : Operator} {x y : IE} {l r : Expr} {p : Pos} (ho : bopOk op o = true) (hl : PE X l (tE (cfg X O) B W G (ev S.F x G))) (hr : PE X r (tE (cfg X O) B W G (ev S.F y G))) : PE X (.BinOp l o r p) (tE (cfg X O) B W G (ev S.F (.b op x y) G)) := by
  have e := of_decide_eq_true ho
  subst e
  refine (pe_op (op_bin (O := O) op) hl hr).weak fun σ H Q h => ?_
  refine two_read h fun a b x y H1 H2 ea eb s1 s2 Su zt ra rb R => ?_
  cases e : binD op a.2 b.2 with
  | no => rw [e] at R; exact False.elim R
  | ex n fs => exact absurd e (binD_ex _ _ _ _ _)
  | ok res =>
    rw [e] at R
    exact ⟨Zof B G σ, H, a, b, res, zt, s1.trans s2, ra, rb, e, fun v H' s' rv => R v H' ((s1.trans s2).trans s') rv⟩
theorem cmpD_ex (op : Cop) (x y : D) (n : Nat) (fs : List D) : cmpD op x y ≠ .ex n fs := by
  have hq : ∀ x y, eqD x y ≠ .ex n fs := fun x y e => by
    unfold eqD at e
    split at e
    · cases e
    · split at e
      · cases e
      · unfold lenE at e
        split at e <;> cases e
  have hm : ∀ x y, memD x y ≠ .ex n fs := fun x y e => by
    unfold memD at e
    split at e
    · split at e <;> cases e
    · split at e
      · cases e
      · split at e <;> cases e
    · split at e <;> cases e
    · split at e <;> cases e
    · cases e
  intro e
  unfold cmpD at e
  split at e
  all_goals first | cases e | skip
  · exact hq _ _ e
  · cases q : eqD x y with
    | no => rw [q] at e; cases e
    | ok b => rw [q] at e; cases e
    | ex n' fs' => rw [q] at e; injection e with e1 e2; subst e1 e2; exact hq _ _ q
  · exact hm _ _ e
  · cases q : memD x y with
    | no => rw [q] at e; cases e
    | ok b => rw [q] at e; cases e
    | ex n' fs' => rw [q] at e; injection e with e1 e2; subst e1 e2; exact hm _ _ q
theorem notSet {e : Expr} {x : IE} (h : okE S x sc e = true) (op : CmpOp) : behindInMarks op e = false := by
  cases e <;> first | rfl | skip
  · cases x <;> simp [okE, isXt] at h
theorem ok_cmp (hu : X.A.units + 65 < cLine) {op : Cop} {o : CmpOp} {x y : IE} {l r : Expr} {p : Pos} (ho : copOk op o = true) (hm : behindInMarks o r = false) (hl : PE X l (tE (cfg X O) B W G (ev S.F x G))) (hr : PE X r (tE (cfg X O) B W G (ev S.F y G))) :
    PE X (.Compare l [o] [r] p) (tE (cfg X O) B W G (ev S.F (.cmp op x y) G)) := by
  have e := of_decide_eq_true ho
  subst e
  refine (pe_cmpR (op_cmp (O := O) hu op) hl hr hm).weak fun σ H Q h => ?_
  refine two_read h fun a b x y H1 H2 ea eb s1 s2 Su zt ra rb R => ?_
  cases e : cmpD op a.2 b.2 with
  | no => rw [e] at R; exact False.elim R
  | ex n fs => exact absurd e (cmpD_ex _ _ _ _ _)
  | ok res =>
    rw [e] at R
    exact ⟨Zof B G σ, H, a, b, res, zt, s1.trans s2, ra, rb, e, R _ _ (s1.trans s2) RepF.mkB⟩
theorem okT_cmp (hu : X.A.units + 65 < cLine) {op : Cop} {o : CmpOp} {x y : IE} {l r : Expr} {p : Pos} (ho : copOk op o = true) (hm : behindInMarks o r = false) (hl : PE X l (tE (cfg X O) B W G (ev S.F x G))) (hr : PE X r (tE (cfg X O) B W G (ev S.F y G))) :
    PT X (.Compare l [o] [r] p) (tT (cfg X O) B W G (asB (ev S.F (.cmp op x y) G))) := by
  have e := of_decide_eq_true ho
  subst e
  refine (pt_cmpR (op_cmp (O := O) hu op) hl hr hm).weak fun σ H Q h => ?_
  obtain ⟨Su, R⟩ := h
  show tE _ _ _ _ _ σ H fun x H1 => tE _ _ _ _ _ σ H1 fun y H2 => _
  simp only [ev] at R
  cases ea : ev S.F x G with
  | no => rw [ea] at R; exact False.elim R
  | ex n fs => rw [ea] at R; exact ⟨Su, R⟩
  | ok a =>
    rw [ea] at R
    refine ⟨Su, fun v H1 s1 rv => ⟨Su.same s1, ?_⟩⟩
    cases eb : ev S.F y G with
    | no => rw [eb] at R; exact False.elim R
    | ex n fs => rw [eb] at R; exact fun cls dd H' s' e' => R cls dd H' (s1.trans s') e'
    | ok b =>
      rw [eb] at R
      refine fun w H2 s2 rw' => ?_
      cases e : cmpD op a.2 b.2 with
      | no => simp only [Rs.bind_ok, e, Rs.bind_no] at R; exact False.elim R
      | ex n fs => exact absurd e (cmpD_ex _ _ _ _ _)
      | ok res =>
        simp only [Rs.bind_ok, e] at R
        exact ⟨Zof B G σ, H, a, b, res, Su.ztr, s1.trans s2, rv.mono s2, rw'.back s1, e, res, rfl, R H2 (s1.trans s2)⟩
/-- a test by its value -/
theorem test_of {e : Expr} {r : Rs (Fl × D)} (h : PE X e (tE (cfg X O) B W G r)) (he : ∀ whole, isTrue e X.env whole = (do let v ← whole; standAt e.pos; holding [v] (truthy v))) : PT X e (tT (cfg X O) B W G (asB r)) := by
  refine (pt_val h he).weak fun σ H Q ⟨Su, R⟩ => ?_
  cases r with
  | no => exact False.elim R
  | ex n fs => exact ⟨Su, R⟩
  | ok a =>
    refine ⟨Su, fun v H1 s1 rv => ?_⟩
    obtain ⟨f, d⟩ := a
    cases d with
    | bl b => exact ⟨b, rv.bl, R H1 s1⟩
    | _ => exact False.elim R
theorem ok_neg {x : IE} {e : Expr} {p : Pos} (h : PE X e (tE (cfg X O) B W G (ev S.F x G))) : PE X (.UnaryOp .USub e p) (tE (cfg X O) B W G (ev S.F (.neg x) G)) := by
  refine (pe_un un_neg h).weak fun σ H Q h => ?_
  refine one_read h fun a x H1 ea s1 Su zt ra R => ?_
  obtain ⟨f, d⟩ := a
  cases d with
  | int i => exact ⟨i, ra.int, R _ _ s1 RepF.mkI⟩
  | _ => exact False.elim R
/-! and, or, not -/
theorem bool_read {c : Cfg} {ra : Rs (Fl × D)} {k : Bool → Rs (Fl × D)} {σ : L2.St} {H : Hp} {Q : VK} {T : V → Hp → Prop}
    (h : tE c B W G ((asB ra).bind k) σ H Q) (q : ∀ b H1, Same H H1 → StOk c B G σ H1 → ResE c B (Zof B G σ) W σ H1 (k b) Q → T (.bl b) H1) : tE c B W G ra σ H fun x H1 => T x H1 := by
  obtain ⟨Su, R⟩ := h
  cases ra with
  | no => exact False.elim R
  | ex x fs => exact ⟨Su, R⟩
  | ok a =>
    obtain ⟨f, d⟩ := a
    cases d with
    | bl b =>
      refine ⟨Su, fun v H1 s1 rv => ?_⟩
      have e := rv.bl
      subst e
      exact q b H1 s1 (Su.same s1) (ResE.later R s1)
    | _ => exact False.elim R
theorem ok_and {x y : IE} {a b : Expr} {rest : List Expr} {p : Pos} (hx : PE X a (tE (cfg X O) B W G (ev S.F x G))) (hy : PE X (.BoolOp .And (b :: rest) p) (tE (cfg X O) B W G (ev S.F y G))) : PE X (.BoolOp .And (a :: b :: rest) p) (tE (cfg X O) B W G (ev S.F (.and_ x y) G)) := by
  refine (pe_and hx hy).weak fun σ H Q h => ?_
  refine bool_read h fun b H1 s1 Su R => ⟨b, rfl, ?_⟩
  cases b with
  | true => rw [if_pos rfl] at R ⊢; exact ⟨Su, R⟩
  | false => rw [if_neg Bool.false_ne_true] at R ⊢; exact R _ _ (Same.refl _) RepF.mkB
theorem ok_or {x y : IE} {a b : Expr} {rest : List Expr} {p : Pos} (hx : PE X a (tE (cfg X O) B W G (ev S.F x G))) (hy : PE X (.BoolOp .Or (b :: rest) p) (tE (cfg X O) B W G (ev S.F y G))) : PE X (.BoolOp .Or (a :: b :: rest) p) (tE (cfg X O) B W G (ev S.F (.or_ x y) G)) := by
  refine (pe_or hx hy).weak fun σ H Q h => ?_
  refine bool_read h fun b H1 s1 Su R => ⟨b, rfl, ?_⟩
  cases b with
  | true => rw [if_pos rfl] at R ⊢; exact R _ _ (Same.refl _) RepF.mkB
  | false => rw [if_neg Bool.false_ne_true] at R ⊢; exact ⟨Su, R⟩
theorem ok_not {x : IE} {a : Expr} {p : Pos} (hx : PE X a (tE (cfg X O) B W G (ev S.F x G))) : PE X (.UnaryOp .Not a p) (tE (cfg X O) B W G (ev S.F (.not_ x) G)) := by
  refine (pe_not hx).weak fun σ H Q h => ?_
  exact bool_read h fun b H1 s1 Su R => ⟨b, rfl, R _ _ (Same.refl _) RepF.mkB⟩
/-- tests -/
theorem ResB.later {c : Cfg} {Z : Addr → Prop} {σ : L2.St} {H H1 : Hp} {r : Rs Bool} {Q : Bool → Hp → Prop} (h : ResB c B Z W σ H r Q) (s : Same H H1) : ResB c B Z W σ H1 r Q := by
  cases r with
  | no => exact h
  | ok x => exact fun H' s' => h H' (s.trans s')
  | ex x fs => exact fun cls dd H' s' e => h cls dd H' (s.trans s') e
theorem test_read {c : Cfg} {ra : Rs Bool} {r : Rs Bool} {σ : L2.St} {H : Hp} {Q : Bool → Hp → Prop} {T : Bool → Hp → Prop}
    (h : tT c B W G r σ H Q) (e : (∃ b, ra = .ok b) ∨ r = .no ∨ ∃ n fs, ra = .ex n fs ∧ r = .ex n fs) (q : ∀ b H1, ra = .ok b → Same H H1 → StOk c B G σ H1 → ResB c B (Zof B G σ) W σ H1 r Q → T b H1) : tT c B W G ra σ H fun x H1 => T x H1 := by
  obtain ⟨Su, R⟩ := h
  rcases e with ⟨b, e⟩ | e | ⟨n, fs, e1, e2⟩
  · subst e
    exact ⟨Su, fun H1 s1 => q b H1 rfl s1 (Su.same s1) (ResB.later R s1)⟩
  · subst e; exact False.elim R
  · subst e1 e2; exact ⟨Su, R⟩
theorem asB_bind {ra : Rs Bool} {k : Bool → Rs (Fl × D)} : asB (ra.bind k) = ra.bind fun b => asB (k b) := by cases ra <;> rfl
theorem okT_and {x y : IE} {a b : Expr} {rest : List Expr} {p : Pos} (hx : PT X a (tT (cfg X O) B W G (asB (ev S.F x G)))) (hy : PW X (.BoolOp .And (b :: rest) p) (tT (cfg X O) B W G (asB (ev S.F y G)))) : PT X (.BoolOp .And (a :: b :: rest) p) (tT (cfg X O) B W G (asB (ev S.F (.and_ x y) G))) := by
  refine (pw_and hx hy).pt.weak fun σ H Q h => ?_
  simp only [ev, asB_bind] at h
  refine test_read h ?_ fun b H1 e s1 Su R => ?_
  · cases e : asB (ev S.F x G) with
    | no => exact .inr (.inl rfl)
    | ok b => exact .inl ⟨b, rfl⟩
    | ex n fs => exact .inr (.inr ⟨n, fs, rfl, rfl⟩)
  · rw [e, Rs.bind_ok] at R
    cases b with
    | true => rw [if_pos rfl] at R ⊢; exact ⟨Su, R⟩
    | false => rw [if_neg Bool.false_ne_true] at R ⊢; exact R _ (Same.refl _)
theorem okT_or {x y : IE} {a b : Expr} {rest : List Expr} {p : Pos} (hx : PT X a (tT (cfg X O) B W G (asB (ev S.F x G)))) (hy : PW X (.BoolOp .Or (b :: rest) p) (tT (cfg X O) B W G (asB (ev S.F y G)))) : PT X (.BoolOp .Or (a :: b :: rest) p) (tT (cfg X O) B W G (asB (ev S.F (.or_ x y) G))) := by
  refine (pw_or hx hy).pt.weak fun σ H Q h => ?_
  simp only [ev, asB_bind] at h
  refine test_read h ?_ fun b H1 e s1 Su R => ?_
  · cases e : asB (ev S.F x G) with
    | no => exact .inr (.inl rfl)
    | ok b => exact .inl ⟨b, rfl⟩
    | ex n fs => exact .inr (.inr ⟨n, fs, rfl, rfl⟩)
  · rw [e, Rs.bind_ok] at R
    cases b with
    | true => rw [if_pos rfl] at R ⊢; exact R _ (Same.refl _)
    | false => rw [if_neg Bool.false_ne_true] at R ⊢; exact ⟨Su, R⟩
theorem okT_not {x : IE} {a : Expr} {p : Pos} (hx : PT X a (tT (cfg X O) B W G (asB (ev S.F x G)))) : PT X (.UnaryOp .Not a p) (tT (cfg X O) B W G (asB (ev S.F (.not_ x) G))) := by
  refine (pt_not hx).weak fun σ H Q h => ?_
  simp only [ev, asB_bind] at h
  refine test_read h ?_ fun b H1 e s1 Su R => ?_
  · cases e : asB (ev S.F x G) with
    | no => exact .inr (.inl rfl)
    | ok b => exact .inl ⟨b, rfl⟩
    | ex n fs => exact .inr (.inr ⟨n, fs, rfl, rfl⟩)
  · rw [e, Rs.bind_ok] at R
    exact R _ (Same.refl _)
theorem ok_ife {t x y : IE} {c a b : Expr} {p : Pos} (ht : PT X c (tT (cfg X O) B W G (asB (ev S.F t G)))) (hx : PE X a (tE (cfg X O) B W G (ev S.F x G))) (hy : PE X b (tE (cfg X O) B W G (ev S.F y G))) : PE X (.IfExp c a b p) (tE (cfg X O) B W G (ev S.F (.ife t x y) G)) := by
  refine (pe_ifExp ht hx hy).weak fun σ H Q h => ?_
  obtain ⟨Su, R⟩ := h
  simp only [ev] at R
  show tT _ _ _ _ _ σ H _
  cases e : asB (ev S.F t G) with
  | no => rw [e] at R; exact False.elim R
  | ex n fs => rw [e] at R; exact ⟨Su, R⟩
  | ok b =>
    rw [e, Rs.bind_ok] at R
    refine ⟨Su, fun H1 s1 => ?_⟩
    cases b with
    | true => rw [if_pos rfl] at R ⊢; exact ⟨Su.same s1, ResE.later R s1⟩
    | false => rw [if_neg Bool.false_ne_true] at R ⊢; exact ⟨Su.same s1, ResE.later R s1⟩
end
end RA
/-! RA7: items, slices, displays, calls. -/
namespace RA
open PySem PySem.Spec PyProof.Rows L2
variable [Tabs] [LentT]
/-! ### what the text's expressions look like -/
def Plain1 : Expr → Prop
  | .Starred _ _ => False
  | .Slice _ _ _ _ => False
  | .Yield _ _ => False
  | .NamedExpr _ _ _ => False
  | _ => True
section
variable {S : Stat} {sc : Scope}
theorem okE_plain : ∀ {x : IE} {e : Expr}, okE S x sc e = true → Plain1 e := fun {x e} h => by
  cases e <;> first | exact trivial | (cases x <;> simp [okE, isXt] at h)
theorem star_cons {e : Expr} {es : List Expr} {env : Env} (h : Plain1 e) : starEach (e :: es) env = (false, eval e env) :: starEach es env := by
  cases e <;> first | rfl | exact h.elim
theorem okA_back : ∀ {as : IEs} {es : List Expr} {p : Pos} {env : Env}, okA S as sc es = true → (backTo p (starEach es env)).any (·.1) = false
  | .nil, [], _, _, _ => rfl
  | .cons x as, e :: es, p, env, h => by
    simp only [okA, Bool.and_eq_true] at h
    rw [star_cons (okE_plain h.1)]
    have ih := okA_back (p := p) (env := env) h.2
    show (false || (backTo p (starEach es env)).any (·.1)) = false
    rw [ih]; rfl
  | .nil, _ :: _, _, _, h => by simp [okA] at h
  | .cons _ _, [], _, _, h => by simp [okA] at h
theorem plainIx {e : Expr} (h : Plain1 e) : PlainIx e := by
  cases e <;> first | (intro o i; rfl) | exact h.elim
theorem attrBase {e : Expr} {m : Str} {env : Env} (h : notC0 e = true) : attributeBase e m env (eval e env) = eval e env := by
  cases e <;> first | rfl | skip
  rename_i f args kws pos
  cases args with
  | nil =>
    cases f <;> first | rfl | skip
    · cases kws with
      | nil => exact absurd h Bool.false_ne_true
      | cons _ _ => rfl
  | cons a as =>
    cases f <;> rfl
theorem foldedIt {e : Expr} {env : Env} (h : Plain1 e) (hs : ∀ es k p, e ≠ .Set es k p) (x : Value) : foldedSetIterable e env x = pure x := by
  cases e <;> first | rfl | (exact (hs _ _ _ rfl).elim)
theorem okE_notSet {x : IE} {e : Expr} (h : okE S x sc e = true) : ∀ es k p, e ≠ .Set es k p := fun es k p z => by
  subst z
  cases x <;> simp [okE, okTy2, isXt] at h
end
section
variable {S : Stat} {X : Cx} {O : OpT} {W : WX} {sc : Scope} {B : Addr → Prop} {G : Ev}
theorem ixD_ex (x y : D) (n : Nat) (fs : List D) : ixD x y ≠ .ex n fs := by
  intro e
  unfold ixD at e
  split at e
  · split at e <;> cases e
  · split at e <;> cases e
  · split at e
    · split at e <;> cases e
    · cases e
  · split at e
    · split at e <;> cases e
    · cases e
  · cases e
theorem ok_ix (hu : X.A.units + 64 < cLine) {x i : IE} {o e : Expr} {p : Pos} (hp : Plain1 e) (hx : PE X o (tE (cfg X O) B W G (ev S.F x G))) (hi : PE X e (tE (cfg X O) B W G (ev S.F i G))) : PE X (.Subscript o e p) (tE (cfg X O) B W G (ev S.F (.ix x i) G)) := by
  refine (pe_ix (ix_data (O := O) hu) hx hi (plainIx hp)).weak fun σ H Q h => ?_
  refine two_read h fun a b x y H1 H2 ea eb s1 s2 Su zt ra rb R => ?_
  cases e : ixD a.2 b.2 with
  | no => rw [e] at R; exact False.elim R
  | ex n fs => exact absurd e (ixD_ex _ _ _ _)
  | ok res =>
    rw [e] at R
    exact ⟨Zof B G σ, H, a, b, res, zt, s1.trans s2, ra, rb, e, fun v H' s' rv => R v H' ((s1.trans s2).trans s') rv⟩
theorem slD_ex (x : D) (lo hi : Option Int) (n : Nat) (fs : List D) : slD x lo hi ≠ .ex n fs := by
  intro e
  unfold slD at e
  split at e
  · cases e
  · split at e <;> cases e
  · split at e
    · contradiction
    · contradiction
  · cases e
/-- a part of a slice -/
def tO (c : Cfg) (B : Addr → Prop) (W : WX) (G : Ev) (r : Rs (Option Int)) : TO := fun σ H Q => StOk c B G σ H ∧ match r with
  | .no => False
  | .ok l => ∀ H', Same H H' → Q l H'
  | .ex x fs => ∀ cls dd H', Same H H' → ExcAt c (Zof B G σ) H' x fs cls dd → W cls dd σ H'
theorem _root_.L2.PO.weak {X : Cx} {e : Option Expr} {t t' : TO} (h : PO X e t) (k : ∀ σ H Q, t' σ H Q → t σ H Q) : PO X e t' := ⟨fun pins s σ H Q I q => h.run pins s σ H Q I (k σ H Q q)⟩
theorem ok_partE {x : IE} {e : Expr} (h : PE X e (tE (cfg X O) B W G (ev S.F x G))) (hn : isOut x = false) : PO X (some e) (tO (cfg X O) B W G (prt (isOut x) (ev S.F x G))) := by
  refine (po_some h).weak fun σ H Q ⟨Su, R⟩ => ?_
  rw [hn] at R
  cases ea : ev S.F x G with
  | no => rw [ea] at R; exact False.elim R
  | ex n fs => rw [ea] at R; exact ⟨Su, R⟩
  | ok a =>
    rw [ea] at R
    refine ⟨Su, fun v H1 s1 rv => ?_⟩
    obtain ⟨f, d⟩ := a
    cases d with
    | int i => exact ⟨i, rv.int, R H1 s1⟩
    | _ => exact False.elim R
theorem ok_part0 : PO X none (tO (cfg X O) B W G (prt (isOut .out) (ev S.F .out G))) := po_none.weak fun σ H Q ⟨Su, R⟩ => R H (Same.refl H)
theorem ok_sl {x lo hi : IE} {o : Expr} {l h : Option Expr} {p p2 : Pos} (hx : PE X o (tE (cfg X O) B W G (ev S.F x G))) (hl : PO X l (tO (cfg X O) B W G (prt (isOut lo) (ev S.F lo G)))) (hh : PO X h (tO (cfg X O) B W G (prt (isOut hi) (ev S.F hi G)))) :
    PE X (.Subscript o (.Slice l h none p2) p) (tE (cfg X O) B W G (ev S.F (.sl x lo hi) G)) := by
  refine (pe_slice (sl_data (O := O)) hx hl hh).weak fun σ H Q hq => ?_
  refine one_read (T := fun x H1 => tO _ _ _ _ _ σ H1 fun l H2 => tO _ _ _ _ _ σ H2 fun u H3 => rSlD _ x l u H3 Q) hq fun a x H1 ea s1 Su zt ra R => ?_
  refine ⟨Su, ?_⟩
  cases el : prt (isOut lo) (ev S.F lo G) with
  | no => rw [el] at R; exact False.elim R
  | ex n fs => rw [el] at R; exact fun cls dd H' s' e' => R cls dd H' (s1.trans s') e'
  | ok b =>
    rw [el, Rs.bind_ok] at R
    refine fun H2 s2 => ⟨Su.same s2, ?_⟩
    cases eh : prt (isOut hi) (ev S.F hi G) with
    | no => rw [eh] at R; exact False.elim R
    | ex n fs => rw [eh] at R; exact fun cls dd H' s' e' => R cls dd H' ((s1.trans s2).trans s') e'
    | ok d =>
      rw [eh, Rs.bind_ok] at R
      refine fun H3 s3 => ?_
      cases e : slD a.2 b d with
      | no => rw [e] at R; exact False.elim R
      | ex n fs => exact absurd e (slD_ex _ _ _ _ _)
      | ok res =>
        rw [e] at R
        exact ⟨Zof B G σ, H, a, res, zt, (s1.trans s2).trans s3, (ra.mono s2).mono s3, e, fun v H' s' rv => R v H' (((s1.trans s2).trans s3).trans s') rv⟩
/-! ### x[::-1] -/
theorem rev_txt (s : List Nat) (uk : Tok) : Txt.sliceBy ⟨⟨s⟩⟩ none none (-1, uk) = ⟨⟨s.reverse⟩⟩ := by
  unfold Txt.sliceBy slicePicked
  rw [if_neg (by intro z; cases z)]
  have e : Builtin.Str.strSliceIndices none none (-1) (⟨⟨s⟩⟩ : PySem.Str).length = (List.range s.length).reverse := by
    show sliceRange ((s.length : Int) - 1) (-1) (-1) = _
    rw [PySem.W.krv_sliceRange, PySem.W.krv_range]
  show (⟨((Builtin.Str.strSliceIndices none none (-1) (⟨⟨s⟩⟩ : PySem.Str).length).filterMap fun i => (⟨⟨s⟩⟩ : PySem.Str).cps[i]?).toArray⟩ : PySem.Str) = _
  rw [e, List.filterMap_reverse]
  have k := PySem.W.krv_all (#[] ++ s.toArray)
  have k' : (List.range s.length).filterMap (fun i => (⟨⟨s⟩⟩ : PySem.Str).cps[i]?) = s := by
    have q := PySem.W.krv_all (⟨s⟩ : Array Nat)
    exact q
  rw [k']
def tRevS (te : TE) : TE := fun σ H Q => te σ H fun x H1 => ∃ s : List Nat, x = .str ⟨⟨s⟩⟩ ∧ s.length ≤ sizeLine ∧ Q (.str ⟨⟨s.reverse⟩⟩) H1
theorem pe_revS {e : Expr} {te : TE} {k : Nat} {p1 p2 p3 pos : Pos} (he : PE X e te) : PE X (.Subscript e (.Slice none none (some (.UnaryOp .USub (.Constant (.int 1) k p1) p2)) p3) pos) (tRevS te) := by
  refine ⟨fun pins s σ H Q I h => ?_⟩
  refine Subscript_ (thn (he.run pins s σ H _ I h) fun v s1 ⟨x, H1, I1, r1, q1⟩ => ?_)
  obtain ⟨w, ex, hz, q⟩ := q1
  subst ex
  obtain ⟨t, rfl⟩ := r1
  have hst : PO X (some (.UnaryOp .USub (.Constant (.int 1) k p1) p2)) (tPart (tUn (rU fun i => .int (-i)) (tC (.int 1)))) := po_some (pe_un un_neg pe_int)
  refine wpAny_Slice (thn (po_none.run pins s1 σ H1 (fun o H2 => o = none ∧ H2 = H1) I1 ⟨rfl, rfl⟩) fun vl s2 ⟨l, H2, I2, pl, el, e2⟩ => ?_)
  subst el e2
  refine thn (po_none.run pins s2 σ H2 (fun o H3 => o = none ∧ H3 = H2) I2 ⟨rfl, rfl⟩) fun vu s3 ⟨u, H3, I3, pu, eu, e3⟩ => ?_
  subst eu e3
  refine thn (hst.run pins s3 σ H3 (fun o H4 => o = some (-1) ∧ H4 = H3) I3 ⟨1, rfl, -1, rfl, rfl, rfl⟩) fun vs s4 ⟨o, H4, I4, ps, eo, e4⟩ => ?_
  subst eo e4
  have I5 : Inv X pins σ H4 { s4 with heap := s4.heap.push { cls := .type "slice", data := .fields #[vl, vu, vs] } } := I4.kept (t' := s4.toks) fun b ob q => Heap.get?_push_of_some _ q
  obtain ⟨l, el, hl⟩ := IsPart.raw pl
  obtain ⟨u, eu, hu⟩ := IsPart.raw pu
  cases l with
  | some _ => cases hl
  | none =>
    cases u with
    | some _ => cases hu
    | none =>
      obtain ⟨st, est, hst⟩ := IsPart.raw ps
      cases st with
      | none => cases hst
      | some st =>
        obtain ⟨j, uk⟩ := st
        have hj : -1 = j := (Option.some.inj hst).symm
        subst el eu est hj
        refine tail_any (T := "str") (ops := [.ref s4.heap.objs.size, .str ⟨⟨w⟩⟩ t]) (typeIs_str _ _ _) F.slot_str_getitem.lookup (wpAny_getItem_str_slice (l := none) (u := none) (st := some (-1, uk)) ⟨_, Heap.get?_push_size _ rfl, rfl, rfl⟩ rfl ?_) (by with_unfolding_all rfl)
        refine post_val_or_str ⟨Nat.le_trans (Txt.sliceBy_le ⟨⟨w⟩⟩ _ _ (-1, uk) (show (-1 : Int) ≠ 0 by decide)) hz, fun t' c => ?_⟩
        refine ⟨.str ⟨⟨w.reverse⟩⟩, H4, I5.tok _, ⟨t', ?_⟩, q⟩
        have er := rev_txt w uk
        unfold Txt.sliceBy at er
        rw [← er]
theorem ok_rv {x : IE} {o : Expr} {k : Nat} {p1 p2 p3 pos : Pos} (hx : PE X o (tE (cfg X O) B W G (ev S.F x G))) : PE X (.Subscript o (.Slice none none (some (.UnaryOp .USub (.Constant (.int 1) k p1) p2)) p3) pos) (tE (cfg X O) B W G (ev S.F (.rv x) G)) := by
  cases ea : ev S.F x G with
  | no => exact PE.never fun σ H Q ⟨Su, R⟩ => by simp only [ev, ea, Rs.bind_no] at R; exact R
  | ex n fs =>
    refine (pe_revS hx).weak fun σ H Q ⟨Su, R⟩ => ?_
    simp only [ev, ea, Rs.bind_ex] at R
    show tE _ _ _ _ _ σ H _
    rw [ea]
    exact ⟨Su, R⟩
  | ok a =>
    obtain ⟨f, d⟩ := a
    cases d with
    | lst ds =>
      refine (pe_revL hx).weak fun σ H Q ⟨Su, R⟩ => ?_
      simp only [ev, ea, Rs.bind_ok, rvD] at R
      show tE _ _ _ _ _ σ H _
      rw [ea]
      refine ⟨Su, fun v H1 s1 rv => ?_⟩
      obtain ⟨a, vs, rfl, h1, h2⟩ := rv.lst
      refine ⟨a, vs, rfl, h1, fun p np => ?_⟩
      obtain ⟨k1, k2⟩ := newL s1 np h2.rev
      exact R _ _ (s1.trans k1) k2
    | str t =>
      refine (pe_revS hx).weak fun σ H Q ⟨Su, R⟩ => ?_
      simp only [ev, ea, Rs.bind_ok, rvD] at R
      split at R
      · rename_i hl
        show tE _ _ _ _ _ σ H _
        rw [ea]
        exact ⟨Su, fun v H1 s1 rv => ⟨t, rv.str, hl, R _ _ s1 RepF.mkS⟩⟩
      · exact False.elim R
    | _ => exact PE.never fun σ H Q ⟨Su, R⟩ => by simp only [ev, ea, Rs.bind_ok, rvD] at R; exact R
end
end RA
/-! RA8: argument lists, displays, calls of built-ins, methods, own defs. -/
namespace RA
open PySem PySem.Spec PyProof.Rows L2
variable [Tabs] [LentT]
section
variable {S : Stat} {X : Cx} {O : OpT} {W : WX} {sc : Scope} {B : Addr → Prop} {G : Ev}
theorem RepsF.length {c : Cfg} {Z : Addr → Prop} {H H' : Hp} {xs : List (Fl × D)} {vs : List V} (h : RepsF c Z H H' xs vs) : xs.length = vs.length := by
  induction h with
  | nil => rfl
  | cons _ _ ih => rw [List.length_cons, List.length_cons, ih]
theorem okA_nil : PA X [] (tA (cfg X O) B W G (evs S.F .nil G)) := pa_nil.weak fun σ H Q ⟨Su, R⟩ => R [] H (Same.refl H) .nil
theorem okA_cons {x : IE} {as : IEs} {e : Expr} {es : List Expr} (hp : Plain1 e) (hx : PE X e (tE (cfg X O) B W G (ev S.F x G))) (ha : PA X es (tA (cfg X O) B W G (evs S.F as G))) : PA X (e :: es) (tA (cfg X O) B W G (evs S.F (.cons x as) G)) := by
  refine (pa_cons hx ha (star_cons hp)).weak fun σ H Q ⟨Su, R⟩ => ?_
  simp only [evs] at R
  show tE _ _ _ _ _ σ H fun x H1 => tA _ _ _ _ _ σ H1 fun xs H2 => Q (x :: xs) H2
  cases ea : ev S.F x G with
  | no => rw [ea] at R; exact False.elim R
  | ex n fs => rw [ea] at R; exact ⟨Su, R⟩
  | ok a =>
    rw [ea, Rs.bind_ok] at R
    refine ⟨Su, fun v H1 s1 rv => ⟨Su.same s1, ?_⟩⟩
    cases eb : evs S.F as G with
    | no => rw [eb] at R; exact False.elim R
    | ex n fs => rw [eb] at R; exact fun cls dd H' s' e' => R cls dd H' (s1.trans s') e'
    | ok b =>
      rw [eb] at R
      exact fun vs H2 s2 rw' => R _ H2 (s1.trans s2) (.cons (rv.mono s2) (rw'.back s1))
/-- the arguments, then a thing of them -/
theorem args_read {c : Cfg} {ra : Rs (List (Fl × D))} {k : List (Fl × D) → Rs (Fl × D)} {σ : L2.St} {H : Hp} {Q : VK} {T : List V → Hp → Prop}
    (h : tE c B W G (ra.bind k) σ H Q)
    (q : ∀ xs vs H1, ra = .ok xs → Same H H1 → StOk c B G σ H1 → (∀ z, Zof B G σ z → H z ≠ none) → RepsF c (Zof B G σ) H H1 xs vs → ResE c B (Zof B G σ) W σ H (k xs) Q → T vs H1) :
    tA c B W G ra σ H fun vs H1 => T vs H1 := by
  obtain ⟨Su, R⟩ := h
  cases ra with
  | no => exact False.elim R
  | ex x fs => exact ⟨Su, R⟩
  | ok a => exact ⟨Su, fun v H1 s1 rv => q a v H1 rfl s1 (Su.same s1) Su.ztr rv R⟩
theorem small1000' {n : Nat} (h : n ≤ 1000) : n ≤ sizeLine := by rw [sizeLine_eq]; omega
theorem ok_tup {as : IEs} {es : List Expr} {j : Nat} {p : Pos} (h : PA X es (tA (cfg X O) B W G (evs S.F as G))) : PE X (.Tuple es j p) (tE (cfg X O) B W G (ev S.F (.tup as) G)) := by
  refine (pe_tup h).weak fun σ H Q hq => ?_
  refine args_read hq fun xs vs H1 ea s1 Su zt rs R => ?_
  split at R
  · rename_i hk
    refine ⟨by rw [← rs.length]; exact small1000' hk.2, fun p np => ?_⟩
    obtain ⟨k1, k2⟩ := newT (c := cfg X O) zt s1 np (rs.keep hk.1 zt)
    exact R _ _ (s1.trans k1) k2
  · exact False.elim R
theorem ok_lst {as : IEs} {es : List Expr} {p : Pos} (h : PA X es (tA (cfg X O) B W G (evs S.F as G))) : PE X (.List es p) (tE (cfg X O) B W G (ev S.F (.lst as) G)) := by
  refine (pe_lst h).weak fun σ H Q hq => ?_
  refine args_read hq fun xs vs H1 ea s1 Su zt rs R => ?_
  split at R
  · rename_i hk
    refine ⟨by rw [← rs.length]; exact small1000' hk.2, fun p np => ?_⟩
    obtain ⟨k1, k2⟩ := newL s1 np (rs.keep hk.1 zt)
    exact R _ _ (s1.trans k1) k2
  · exact False.elim R
theorem biD_ex (f : Bf) (ds : List D) (n : Nat) (fs : List D) : biD f ds ≠ .ex n fs := by
  intro e
  unfold biD at e
  split at e
  all_goals repeat' (first | (cases e; done) | split at e)
theorem okB_of (C : CtxB S X O W sc) {x y : Str} (h : okB S sc x y = true) : y = x ∧ Gl X y ∧ X.mg y = none ∧ y ≠ "__name__" ∧ (y == ("__debug__" : Str)) = false := by
  unfold okB at h
  simp only [Bool.and_eq_true, decide_eq_true_eq] at h
  obtain ⟨⟨⟨h1, h2⟩, h3⟩, h4⟩ := h
  obtain ⟨p1, p2, p3⟩ := plainN_of h4
  exact ⟨h1.symm, C.gl h2, C.bs _ h3, p3, p1⟩
theorem ok_lset (C : CtxB S X O W sc) {x : IE} {y z : Str} {b : Expr} {p p2 q pos : Pos} (hy : okB S sc "len" y = true) (hz : okB S sc "set" z = true) (na : Plain1 b) (hx : PE X b (tE (cfg X O) B W G (ev S.F x G))) :
    PE X (.Call (.Name y p) [.Call (.Name z p2) [b] [] q] [] pos) (tE (cfg X O) B W G (ev S.F (.lset x) G)) := by
  obtain ⟨rfl, hg, hm, hn, hd⟩ := okB_of C hy
  obtain ⟨rfl, hg2, hm2, hn2, hd2⟩ := okB_of C hz
  refine (RZ.pe_lenSetI (X := X) hg hm hg2 hm2 hx C.calm (star_cons na)).weak fun σ H Q ⟨Su, R⟩ => ?_
  cases ea : ev S.F x G with
  | no => simp only [ev, ea, Rs.bind_no] at R; exact R.elim
  | ex n fs =>
    simp only [ev, ea, Rs.bind_ex] at R
    exact ⟨Su, R⟩
  | ok a =>
    simp only [ev, ea, Rs.bind_ok] at R
    refine ⟨Su, fun v H1 s1 rv => ?_⟩
    obtain ⟨f, d⟩ := a
    cases d with
    | lst xs =>
      simp only [lsetD] at R
      split at R
      · rename_i ns e
        split at R
        · rename_i hc
          obtain ⟨l, vs, rfl, h1, h2⟩ := rv.lst
          have ev := reps_intsOf h2 e
          subst ev
          exact ⟨l, ns, rfl, h1, hc.1, hc.2, R _ _ s1 RepF.mkI⟩
        · exact R.elim
      · exact R.elim
    | _ => exact R.elim
theorem boot_bf (f : Bf) : bootBuiltins (bfName f) = some (bfVal f) := by cases f <;> decide +kernel
theorem boot_ty (f : Bf) (h : isTy f = true) : bootBuiltins (tyName f) = some (.type (bfType f)) := by
  cases f <;> first | decide +kernel | exact absurd h Bool.false_ne_true
theorem ok_bi (C : CtxB S X O W sc) {f : Bf} {as : IEs} {x : Str} {es : List Expr} {p pos : Pos} (hb : okB S sc (bfName f) x = true) (hf : isTy f = false) (hne : es.isEmpty = false) (ha : okA S as sc es = true)
    (h : PA X es (tA (cfg X O) B W G (evs S.F as G))) : PE X (.Call (.Name x p) es [] pos) (tE (cfg X O) B W G (ev S.F (.bi f as) G)) := by
  obtain ⟨rfl, hg, hm, hn, hd⟩ := okB_of C hb
  cases es with
  | nil => cases hne
  | cons e es =>
    have hs : starEach (e :: es) X.env = (false, eval e X.env) :: starEach es X.env := by
      cases as with
      | nil => simp [okA] at ha
      | cons x as => simp only [okA, Bool.and_eq_true] at ha; exact star_cons (okE_plain ha.1)
    have hpl : (backTo pos (starEach es X.env)).any (·.1) = false := by
      cases as with
      | nil => simp [okA] at ha
      | cons x as => simp only [okA, Bool.and_eq_true] at ha; exact okA_back ha.2
    have hfn : bfVal f ≠ .builtin "isinstance" := by cases f <;> first | (exact absurd hf (by decide)) | (intro z; simp [bfVal] at z)
    have rule := call_bi (X := X) (O := O) f C.calm hfn
    have key : PE X (.Call (.Name (bfName f) p) (e :: es) [] pos) (tCB (rBi (cfg X O) (biD f)) (tA (cfg X O) B W G (evs S.F as G))) := by
      have hv := boot_bf f
      generalize hbv : bfVal f = bv at hv rule
      generalize bfName f = nmx at hg hm hn hd hv ⊢
      cases f <;> (cases hbv; first | exact pe_callB rule hg hm hv h hn hd hs hpl | exact pe_callTy rule hg hm hv h hn hd hs hpl)
    refine key.weak fun σ H Q hq => ?_
    refine args_read hq fun xs vs H1 ea s1 Su zt rs R => ?_
    cases e : biD f (xs.map (·.2)) with
    | no => rw [e] at R; exact False.elim R
    | ex n fs => exact absurd e (biD_ex _ _ _ _)
    | ok r =>
      rw [e] at R
      exact ⟨Zof B G σ, H, xs, r, zt, s1, rs, e, fun v H' s' rv => R v H' (s1.trans s') rv⟩
theorem ok_is (C : CtxB S X O W sc) {f : Bf} {x : IE} {z y : Str} {a : Expr} {p p2 pos : Pos} (hb : okB S sc (bfName f) z = true) (hf : isTy f = true) (hy : okB S sc (tyName f) y = true) (hpl : Plain1 a)
    (h : PE X a (tE (cfg X O) B W G (ev S.F x G))) : PE X (.Call (.Name z p) [a, .Name y p2] [] pos) (tE (cfg X O) B W G (ev S.F (.bi f (.cons x .nil)) G)) := by
  obtain ⟨rfl, hg, hm, hn, hd⟩ := okB_of C hb
  obtain ⟨rfl, hg2, hm2, hn2, hd2⟩ := okB_of C hy
  have en : bfName f = "isinstance" := by cases f <;> first | rfl | exact absurd hf Bool.false_ne_true
  rw [en] at hg hm hn hd ⊢
  have hs : starEach [a, .Name (tyName f) p2] X.env = (false, eval a X.env) :: starEach [.Name (tyName f) p2] X.env := star_cons hpl
  have hty : PE X (.Name (tyName f) p2) (tC (.ty (bfType f))) := pe_bltn hg2 hm2 (boot_ty f hf) rfl hn2 hd2
  refine (pe_callB call_isi hg hm PyProof.Rows.boot_isinstance (pa_cons h (pa_cons hty pa_nil) hs) hn hd hs rfl).weak fun σ H Q hq => ?_
  simp only [ev, evs] at hq
  refine one_read (T := fun v H1 => rIsi X.K [v, .ty (bfType f)] H1 Q) (Q := Q) (k := fun a => ((Rs.ok []).bind fun ds => Rs.ok (a :: ds)).bind fun ds => biD f (ds.map (·.2))) ?_ fun a v H1 ea s1 Su zt rv R => ?_
  · cases e : ev S.F x G with
    | no => rw [e] at hq; exact hq
    | ex n fs => rw [e] at hq; exact hq
    | ok a => rw [e] at hq; exact hq
  · have R' : ResE (cfg X O) B (Zof B G σ) W σ H (biD f [a.2]) Q := R
    cases e : biD f [a.2] with
    | no => rw [e] at R'; exact False.elim R'
    | ex n fs => exact absurd e (biD_ex _ _ _ _)
    | ok r =>
      rw [e] at R'
      exact call_is (K := X.K) f hf rv e fun v H' s' rv => R' v H' (s1.trans s') (rv.back (Same.refl H))
/-! ### methods -/
theorem find_occ (s : List Nat) (ch : Nat) : Txt.find ⟨⟨s⟩⟩ ⟨⟨[ch]⟩⟩ = findL s ch := by
  unfold Txt.find findL
  have h1 : ∀ i, StrLaws.At (⟨⟨s⟩⟩ : PySem.Str) ⟨⟨[ch]⟩⟩ (⟨⟨s⟩⟩ : PySem.Str).length i ↔ s[i]? = some ch := fun i => by
    have := StrLaws.subAt_one (⟨⟨s⟩⟩ : PySem.Str) ch i
    exact this
  rcases StrLaws.occ_head_from (⟨⟨s⟩⟩ : PySem.Str) ⟨⟨[ch]⟩⟩ 0 1 (Nat.le_refl 1) with ⟨e, h⟩ | ⟨i, r, e, _, h, k⟩
  · have e' : List.findIdx? (fun x => x == ch) s = none := by
      rw [List.findIdx?_eq_none_iff]
      intro x hx
      obtain ⟨i, hi⟩ := List.getElem?_of_mem hx
      rw [beq_eq_false_iff_ne]
      intro z
      subst z
      exact h i (Nat.zero_le _) ((h1 i).mpr hi)
    rw [e, e']
  · have e' : List.findIdx? (fun x => x == ch) s = some i := by
      have hi := (h1 i).mp h
      obtain ⟨hl, hi'⟩ := List.getElem?_eq_some_iff.mp hi
      rw [List.findIdx?_eq_some_iff_getElem]
      refine ⟨hl, by rw [hi']; exact beq_self_eq_true _, fun j hj => ?_⟩
      have hjl : j < s.length := Nat.lt_trans hj hl
      intro z
      have z' := eq_of_beq z
      exact k j (Nat.zero_le _) hj ((h1 j).mpr (by rw [List.getElem?_eq_getElem hjl, z']))
    rw [e, e']
theorem TL.joinL_nil : ∀ l : List (List Nat), TL.joinL [] l = joinD l
  | [] => rfl
  | [x] => by simp [TL.joinL, joinD]
  | x :: y :: r => by
    show x ++ ([] ++ TL.joinL [] (y :: r)) = x ++ joinD (y :: r)
    rw [List.nil_append, TL.joinL_nil (y :: r)]
theorem join_txt (ss : List (List Nat)) : Txt.join ⟨⟨[]⟩⟩ (ss.map fun s => (⟨⟨s⟩⟩ : PySem.Str)) = ⟨⟨joinD ss⟩⟩ := by
  unfold Txt.join
  rw [StrLaws.glued_eq_join]
  have h := TL.tl_join (⟨⟨[]⟩⟩ : PySem.Str) (ss.map fun s => (⟨⟨s⟩⟩ : PySem.Str))
  have h2 : (ss.map fun s => (⟨⟨s⟩⟩ : PySem.Str)).map TL.tl = ss := by
    rw [List.map_map]
    exact List.map_id ss
  rw [h2, show TL.tl (⟨⟨[]⟩⟩ : PySem.Str) = [] from rfl, TL.joinL_nil] at h
  generalize Str.join (⟨⟨[]⟩⟩ : PySem.Str) (ss.map fun s => (⟨⟨s⟩⟩ : PySem.Str)) = z at h ⊢
  obtain ⟨⟨l⟩⟩ := z
  have h' : l = joinD ss := h
  rw [h']
theorem sum_len (ss : List (List Nat)) : ((ss.map fun s => (⟨⟨s⟩⟩ : PySem.Str)).map (·.length)).sum = sumLen ss := by
  induction ss with
  | nil => rfl
  | cons x r ih => rw [List.map_cons, List.map_cons, List.sum_cons, ih]; rfl
theorem meD_ex (m : Mf) (x : D) (ds : List D) (n : Nat) (fs : List D) : meD m x ds ≠ .ex n fs := by
  intro e
  unfold meD at e
  split at e
  all_goals repeat' (first | (cases e; done) | split at e)
theorem one_args {F : FT} {x : IE} : evs F (.cons x .nil) G = (ev F x G).bind fun a => .ok [a] := by simp only [evs, Rs.bind_ok]
theorem me_read {c : Cfg} {σ : L2.St} {H : Hp} {Q : VK} {m : Mf} {o x : IE} {r : V → List V → Hp → VK → Prop} (hq : tE c B W G (ev S.F (.me m o (.cons x .nil)) G) σ H Q)
    (hr : ∀ a b v w H1, (∀ z, Zof B G σ z → H z ≠ none) → Same H H1 → RepF c (Zof B G σ) H H1 a v → RepF c (Zof B G σ) H H1 b w → ∀ res, meD m a.2 [b.2] = .ok res → (∀ v H', Same H1 H' → RepF c (Zof B G σ) H H' res v → Q v H') → r v [w] H1 Q) :
    tM1 r (tE c B W G (ev S.F o G)) (tE c B W G (ev S.F x G)) σ H Q := by
  obtain ⟨Su, R⟩ := hq
  simp only [ev, one_args] at R
  show tE _ _ _ _ _ σ H fun v H1 => (∃ a, v = .str a) ∧ tE _ _ _ _ _ σ H1 fun w H2 => r v [w] H2 Q
  cases ea : ev S.F o G with
  | no => rw [ea] at R; exact False.elim R
  | ex n fs => rw [ea] at R; exact ⟨Su, R⟩
  | ok a =>
    rw [ea, Rs.bind_ok] at R
    obtain ⟨f, d⟩ := a
    cases d with
    | str t =>
      rw [if_pos (show recvOk (.str t) = true from rfl)] at R
      refine ⟨Su, fun v H1 s1 rv => ⟨⟨_, rv.str⟩, Su.same s1, ?_⟩⟩
      cases eb : ev S.F x G with
      | no => rw [eb] at R; exact False.elim R
      | ex n fs => rw [eb] at R; exact fun cls dd H' s' e' => R cls dd H' (s1.trans s') e'
      | ok b =>
        rw [eb] at R
        refine fun w H2 s2 rw' => ?_
        have R' : ResE c B (Zof B G σ) W σ H (meD m (.str t) [b.2]) Q := R
        cases e : meD m (.str t) [b.2] with
        | no => rw [e] at R'; exact False.elim R'
        | ex n fs => exact absurd e (meD_ex _ _ _ _ _)
        | ok res =>
          rw [e] at R'
          exact hr (f, .str t) b v w H2 Su.ztr (s1.trans s2) (rv.mono s2) (rw'.back s1) res e fun v H' s' rv => R' v H' ((s1.trans s2).trans s') rv
    | _ => exact False.elim R
/-- l.index(x), flat things or deep ones -/
def rIndexO (K : PySem.W.Frag) : V → List V → Hp → VK → Prop := fun v ys H Q => rIndex K v ys H Q ∨ rIndexD K v ys H Q
theorem mt_indexO (hu : X.A.units + 65 < cLine) : MtR X "list.index" (rIndexO X.K) := fun pins s σ H x xs v us Q I rx rxs h => h.elim (mt_index pins s σ H x xs v us Q I rx rxs) (mt_indexD hu pins s σ H x xs v us Q I rx rxs)
theorem ok_lix (hu : X.A.units + 65 < cLine) {o x : IE} {e a : Expr} {apos cpos : Pos} (hl : (apos.endLine == cpos.line) = true) (hpl : Plain1 a) (hbase : attributeBase e "index" X.env (eval e X.env) = eval e X.env)
    (ho : PE X e (tE (cfg X O) B W G (ev S.F o G))) (hx : PE X a (tE (cfg X O) B W G (ev S.F x G))) : PE X (.Call (.Attribute e "index" apos) [a] [] cpos) (tE (cfg X O) B W G (ev S.F (.lix o x) G)) := by
  have hs : starEach [a] X.env = [(false, eval a X.env)] := star_cons hpl
  refine (pe_bm F.plainAttrs_list F.slot_list_index F.type_list_index (mt_indexO hu) ho (pa_cons hx pa_nil hs) hbase (by rw [hs]; rfl) hl hs rfl).weak fun σ H Q hq => ?_
  simp only [ev] at hq
  refine one_read (T := fun v H1 => tyV X.K "list" v H1 ∧ tE (cfg X O) B W G (ev S.F x G) σ H1 fun y H2 => rIndexO X.K v [y] H2 Q) hq fun a v H1 ea s1 Su zt rv R => ?_
  obtain ⟨fa, da⟩ := a
  cases da with
  | lst ys =>
    obtain ⟨p, vs, rfl, hsq, hrs⟩ := rv.lst
    refine ⟨.inl ⟨rfl, vs, hsq⟩, ?_⟩
    have R := R.later s1
    refine one_read (T := fun y H2 => rIndexO X.K (.ref p) [y] H2 Q) (k := fun b => lixD ys b.2) ⟨Su, R⟩ fun b w H2 eb s2 Su2 zt2 rw' R => ?_
    obtain ⟨fb, db⟩ := b
    have R : ResE (cfg X O) B (Zof B G σ) W σ H1 (lixD ys db) Q := R
    unfold lixD at R
    split at R
    · rename_i hf
      rw [Bool.and_eq_true] at hf
      split at R
      · rename_i i hi
        obtain ⟨h1, h2, h3⟩ := List.findIdx?_eq_some_iff_getElem.mp hi
        have hrs2 := hrs.same s2
        have ew := rw'.flat hf.1
        subst ew
        have fl := (inV_vS hf.1 hrs2 hf.2).1
        have get : ∀ (m : Nat) (z : V), vs[m]? = some z → ∃ d, ys[m]? = some d ∧ flatD d = true ∧ z = vS d := fun m z hz => by
          obtain ⟨d, hd, rd⟩ := hrs2.getV hz
          have hfd := List.all_eq_true.mp hf.2 d (List.mem_of_getElem? hd)
          exact ⟨d, hd, hfd, rd.flat hfd⟩
        obtain ⟨z, hz, _⟩ := hrs2.get (List.getElem?_eq_getElem h1)
        refine .inl ⟨p, vs, _, i, z, rfl, rfl, hsq.imp (fun z => z.imp (fun h => s2.keep _ _ h trivial) fun ⟨o, h⟩ => ⟨o, s2.keep _ _ h trivial⟩) id, flatV_vS hf.1, fl, hz, ?_, fun m z' hm hz' => ?_, R _ _ s2 RepF.mkI⟩
        · obtain ⟨d, hd, fd, rfl⟩ := get i z hz
          rw [List.getElem?_eq_getElem h1] at hd
          cases hd
          rw [eqV_vS hf.1 fd]; exact h2
        · obtain ⟨d, hd, fd, rfl⟩ := get m z' hz'
          have := h3 m hm
          rw [List.getElem?_eq_getElem (by omega)] at hd
          cases hd
          rw [eqV_vS hf.1 fd]
          simpa using this
      · exact False.elim R
    · split at R
      · rename_i hf
        rw [Bool.and_eq_true] at hf
        split at R
        · rename_i i hi
          obtain ⟨h1, h2, h3⟩ := List.findIdx?_eq_some_iff_getElem.mp hi
          have rl : RepF (cfg X O) (Zof B G σ) H H2 (fa, .lst ys) (.ref p) := rv.mono s2
          refine .inr ⟨p, _, _, toPs ys, i, _, rfl, rfl, rl.dp hf.1, rw'.dp hf.2, hf.1, hf.2, List.getElem?_eq_getElem h1, h2, fun m z' hm hz' => ?_, R _ _ s2 RepF.mkI⟩
          have := h3 m hm
          rw [List.getElem?_eq_getElem (by omega)] at hz'
          cases hz'
          simpa using this
        · exact False.elim R
      · exact False.elim R
  | _ => exact False.elim R
theorem ok_me {m : Mf} {o x : IE} {e a : Expr} {y : Str} {apos cpos : Pos} (hm : meName m = y) (hl : (apos.endLine == cpos.line) = true) (hpl : Plain1 a) (hbase : attributeBase e y X.env (eval e X.env) = eval e X.env)
    (ho : PE X e (tE (cfg X O) B W G (ev S.F o G))) (hx : PE X a (tE (cfg X O) B W G (ev S.F x G))) : PE X (.Call (.Attribute e y apos) [a] [] cpos) (tE (cfg X O) B W G (ev S.F (.me m o (.cons x .nil)) G)) := by
  subst hm
  have hs : starEach [a] X.env = [(false, eval a X.env)] := star_cons hpl
  cases m with
  | find =>
    refine (pe_m1 F.slot_str_find F.type_str_find mt_find ho hx hs hbase hl).weak fun σ H Q hq => ?_
    refine me_read hq fun a b v w H1 zt s1 ra rb res e q => ?_
    obtain ⟨fa, a⟩ := a
    obtain ⟨fb, b⟩ := b
    change meD .find a [b] = .ok res at e
    unfold meD at e
    split at e
    · cases e
      rename_i hh1 hh2
      cases hh2
      exact ⟨_, _, ra.str, by rw [rb.str], by rw [find_occ]; exact q _ _ (Same.refl H1) RepF.mkI⟩
    · contradiction
    · cases e
  | join =>
    refine (pe_m1 F.slot_str_join F.type_str_join mt_join ho hx hs hbase hl).weak fun σ H Q hq => ?_
    refine me_read hq fun a b v w H1 zt s1 ra rb res e q => ?_
    obtain ⟨fa, a⟩ := a
    obtain ⟨fb, b⟩ := b
    change meD .join a [b] = .ok res at e
    unfold meD at e
    split at e
    · contradiction
    · rename_i hh1 hh2
      cases hh2
      split at e
      · rename_i ss hss
        split at e
        · rename_i hz
          cases e
          obtain ⟨p, vs, rfl, hl, hr⟩ := rb.lst
          have ev := reps_strsOf hr hss
          subst ev
          refine ⟨_, p, _, ra.str, rfl, .inl hl, ?_, by rw [join_txt]; exact q _ _ (Same.refl H1) RepF.mkS⟩
          rw [sum_len]
          show sumLen ss + _ * 0 ≤ _
          omega
        · cases e
      · cases e
    · cases e
/-! ### own defs -/
mutual
theorem Rep.regrow {c : Cfg} {B Z : Addr → Prop} {H : Hp} (g : ∀ b, Z b → B b ∨ ∃ o, H b = some o ∧ (∀ vs, o ≠ .tup vs) ∧ ∀ ob u, o ≠ .frz ob u) : ∀ {d : D} {v : V}, noL d = true → Rep c B H d v → Rep c Z H d v
  | _, _, _, .non => .non
  | _, _, _, .bl b => .bl b
  | _, _, _, .int i => .int i
  | _, _, _, .str s => .str s
  | _, _, h, .tup t r => .tup (t.imp (fun ⟨z1, z2⟩ => ⟨z1, fun q => (g _ q).elim z2 fun ⟨o, e1, e2, e3⟩ => by
      rcases z1 with z1 | ⟨ob, z1⟩
      · rw [z1] at e1; cases e1; exact e2 _ rfl
      · rw [z1] at e1; cases e1; exact e3 _ _ rfl⟩) id) (Reps.regrow g (by simpa only [noL] using h) r)
  | _, _, h, .lst _ _ => by simp [noL] at h
  | _, _, h, .dctK _ _ _ => by simp [noL] at h
  | _, _, h, .dctT _ _ _ => by simp [noL] at h
  | _, _, h, .opq _ _ => by simp [noL] at h
theorem Reps.regrow {c : Cfg} {B Z : Addr → Prop} {H : Hp} (g : ∀ b, Z b → B b ∨ ∃ o, H b = some o ∧ (∀ vs, o ≠ .tup vs) ∧ ∀ ob u, o ≠ .frz ob u) : ∀ {ds : List D} {vs : List V}, noLs ds = true → Reps c B H ds vs → Reps c Z H ds vs
  | _, _, _, .nil => .nil
  | _, _, h, .cons r t => by
    simp only [noLs, Bool.and_eq_true] at h
    exact .cons (r.regrow g h.1) (t.regrow g h.2)
end
theorem RepK.regrow {c : Cfg} {B Z : Addr → Prop} {H : Hp} (g : ∀ b, Z b → B b ∨ ∃ o, H b = some o ∧ (∀ vs, o ≠ .tup vs) ∧ ∀ ob u, o ≠ .frz ob u) : ∀ {kvs : List (D × D)} {us : List (Leaf × Value)}, (kvs.all fun kv => noL kv.1 && noL kv.2) = true → RepK c B H kvs us → RepK c Z H kvs us
  | _, _, _, .nil => .nil
  | _, _, h, .cons k r ru t => by
    simp only [List.all_cons, Bool.and_eq_true] at h
    exact .cons k (r.regrow g h.1.2) ru (t.regrow g h.2)
theorem RepT.regrow {c : Cfg} {B Z : Addr → Prop} {H : Hp} (g : ∀ b, Z b → B b ∨ ∃ o, H b = some o ∧ (∀ vs, o ≠ .tup vs) ∧ ∀ ob u, o ≠ .frz ob u) : ∀ {kvs : List (D × D)} {us : List (NestedKey × Addr × Value)}, (kvs.all fun kv => noL kv.1 && noL kv.2) = true → RepT c B H kvs us → RepT c Z H kvs us
  | _, _, _, .nil => .nil
  | _, _, h, .cons k dp rk r ru t => by
    simp only [List.all_cons, Bool.and_eq_true] at h
    exact .cons k dp (rk.regrow g h.1.1) (r.regrow g h.1.2) ru (t.regrow g h.2)
/-- what stands at an own list or dict -/
theorem OwnK.kind {o : HO} (h : OwnK o) : (∀ vs, o ≠ .tup vs) ∧ ∀ ob u, o ≠ .frz ob u := ⟨fun vs z => (by rw [z] at h; exact h), fun ob u z => (by rw [z] at h; exact h)⟩
/-- the lent ones -/
def Lent : List (Fl × D) → List V → Addr → Prop
  | x :: xs, v :: vs, b => (x.1 ≠ .val ∧ v = .ref b) ∨ Lent xs vs b
  | _, _, _ => False
theorem lent_kind {c : Cfg} {Z : Addr → Prop} {H H' : Hp} {b : Addr} : ∀ {xs : List (Fl × D)} {vs : List V}, RepsF c Z H H' xs vs → Lent xs vs b → ∃ o, H' b = some o ∧ OwnK o
  | _, _, .nil, h => h.elim
  | (f, d) :: xs, v :: vs, .cons r t, h => by
    rcases h with ⟨h1, h2⟩ | h
    · cases f with
      | val => exact absurd rfl h1
      | tmp =>
        obtain ⟨a, e, o⟩ := r
        rw [h2] at e; cases e
        exact o.some
      | own =>
        obtain ⟨a, e, _, o⟩ := r
        rw [h2] at e; cases e
        exact o.some
    · exact lent_kind t h
theorem lent_reps {c : Cfg} {Z B : Addr → Prop} {H H' : Hp} (hB : ∀ b, B b → Z b) : ∀ {xs : List (Fl × D)} {vs : List V}, RepsF c Z H H' xs vs → (∀ b, Lent xs vs b → ¬ B b) → Reps c B H' (xs.map (·.2)) vs
  | _, _, .nil, _ => .nil
  | (f, d) :: xs, v :: vs, .cons r t, h => by
    refine .cons ?_ (lent_reps hB t fun b z => h b (.inr z))
    cases f with
    | val => exact Rep.less hB r
    | tmp =>
      obtain ⟨a, e, o⟩ := r
      subst e
      exact (o.grow (Z' := B) fun b z => .inl (hB b z)).rep (h a (.inl ⟨(fun z => by cases z), rfl⟩))
    | own =>
      obtain ⟨a, e, _, o⟩ := r
      subst e
      exact (o.grow (Z' := B) fun b z => .inl (.inl (hB b z))).rep (h a (.inl ⟨(fun z => by cases z), rfl⟩))
theorem ok_call (C : CtxB S X O W sc) {n : Nat} {as : IEs} {x : Str} {es : List Expr} {p pos : Pos} (hn : (decide (S.nm n = x) && S.us.contains n && isGl sc x && plainN x) = true) (hne : es.isEmpty = false) (ha : okA S as sc es = true)
    (h : PA X es (tA (cfg X O) B W G (evs S.F as G))) : PE X (.Call (.Name x p) es [] pos) (tE (cfg X O) B W G (ev S.F (.call n as) G)) := by
  simp only [Bool.and_eq_true, decide_eq_true_eq] at hn
  obtain ⟨⟨⟨h1, h2⟩, h3⟩, h4⟩ := hn
  subst h1
  obtain ⟨f, fd, ps, hm, hk, hb, F⟩ := C.fs n h2
  obtain ⟨p1, p2, p3⟩ := plainN_of h4
  cases es with
  | nil => cases hne
  | cons e es =>
    have hs : starEach (e :: es) X.env = (false, eval e X.env) :: starEach es X.env := by
      cases as with
      | nil => simp [okA] at ha
      | cons x as => simp only [okA, Bool.and_eq_true] at ha; exact star_cons (okE_plain ha.1)
    have hpl : (backTo pos (starEach es X.env)).any (·.1) = false := by
      cases as with
      | nil => simp [okA] at ha
      | cons x as => simp only [okA, Bool.and_eq_true] at ha; exact okA_back ha.2
    refine (pe_callS F C.room (C.gl h3) hm hk hb (fun σ => passAt C.tk σ) h p1 hs hpl).weak fun σ H Q hq => ?_
    refine args_read (T := fun vs H1 => spOf (cfg X O) (S.F n) vs H1 Q (WE W σ)) hq fun xs vs H1 ea s1 Su zt rs R => ?_
    split at R
    · rename_i hkp
      refine ⟨Zof B G σ, xs.map (·.2), Su.ztr, Su.tab, rs.keep hkp zt, ?_⟩
      cases e : S.F n (xs.map (·.2)) with
      | no => rw [e] at R; exact False.elim R
      | ex c fs => rw [e] at R; exact fun cls dd H' s' e' => R cls dd H' (s1.trans s') e'
      | ok r =>
        rw [e] at R
        obtain ⟨o, d⟩ := r
        refine fun v H' s' rv => R v H' (s1.trans s') ?_
        exact RepF.back rv s1
    · refine ⟨fun b => Zof B G σ b ∧ ¬ Lent xs vs b, xs.map (·.2), fun a z => Su.ztr a z.1, Su.tab, lent_reps (fun b z => z.1) rs fun b z q => q.2 z, ?_⟩
      have gr : ∀ {H' : Hp}, Same H1 H' → ∀ b, Zof B G σ b → (Zof B G σ b ∧ ¬ Lent xs vs b) ∨ ∃ o, H' b = some o ∧ (∀ vs, o ≠ .tup vs) ∧ ∀ ob u, o ≠ .frz ob u := fun s' b z => by
        by_cases q : Lent xs vs b
        · obtain ⟨o, e1, e2⟩ := lent_kind rs q
          exact .inr ⟨o, s'.keep _ _ e1 e2.noT, e2.kind⟩
        · exact .inl ⟨z, q⟩
      cases e : S.F n (xs.map (·.2)) with
      | no => rw [e] at R; exact False.elim R
      | ex c fs => rw [e] at R; exact False.elim R
      | ok r =>
        rw [e] at R
        obtain ⟨o, d⟩ := r
        have R : ResE (cfg X O) B (Zof B G σ) W σ H (if lendOk (o, d) = true then .ok (if o = true then .own else .val, d) else .no) Q := R
        split at R
        · rename_i hle
          refine fun v H' s' rv => R v H' (s1.trans s') ?_
          cases o with
          | true =>
            obtain ⟨a, e1, e2, e3⟩ := rv
            have e2' : H a = none := s1.free e2
            refine ⟨a, e1, e2', ?_⟩
            have gr2 : ∀ b, (Zof B G σ b ∨ b = a) → ((Zof B G σ b ∧ ¬ Lent xs vs b) ∨ b = a) ∨ ∃ o, H' b = some o ∧ (∀ vs, o ≠ .tup vs) ∧ ∀ ob u, o ≠ .frz ob u := fun b z => by
              rcases z with z | z
              · exact (gr s' b z).imp .inl id
              · exact .inl (.inr z)
            cases e3 with
            | lst h r => exact .lst h (r.regrow gr2 hle)
            | dctK h r => exact .dctK h (r.regrow gr2 hle)
            | dctT h r => exact .dctT h (r.regrow gr2 hle)
          | false => exact Rep.regrow (gr s') hle rv
        · exact False.elim R
end
end RA
/-! RAZ: zip of two lists, tuples, texts, in any mix. -/
namespace RA
open PySem PySem.Spec PyProof.Rows L2
variable [Tabs]
/-- a source of items -/
inductive Src where
  | lst (a : Addr) | tup (a : Addr) | txt (x : Str)
def Src.v : Src → V
  | .lst a => .ref a | .tup a => .ref a | .txt x => .str x
def Src.off (b : Addr) : Src → Prop
  | .lst a => a ≠ b | .tup a => a ≠ b | .txt _ => True
def SrcAt (K : PySem.W.Frag) (H : Hp) : Src → List V → Prop
  | .lst a, xs => SqL K H a xs
  | .tup a, xs => SqT K H a xs
  | .txt x, xs => xs = x.cps.toList.map fun c => V.str ⟨#[c]⟩
def StI : Src → Addr → Nat → Heap → Prop
  | .lst a, it, i, h => h.IsListIter it a i
  | .tup a, it, i, h => h.IsTupleIter it a i
  | .txt x, it, i, h => ∃ t, h.IsStrIter it (strIterType x) x t i
theorem StI.obj {r : Src} {it : Addr} {i : Nat} {h : Heap} (st : StI r it i h) : ∃ o, h.get? it = some o ∧ ∀ v, o.data ≠ .cell v := by
  cases r with
  | lst a => obtain ⟨o, e, _, d⟩ := st; exact ⟨o, e, fun v q => by rw [d] at q; cases q⟩
  | tup a => obtain ⟨o, e, _, d⟩ := st; exact ⟨o, e, fun v q => by rw [d] at q; cases q⟩
  | txt x => obtain ⟨t, o, e, _, d⟩ := st; exact ⟨o, e, fun v q => by rw [d] at q; cases q⟩
theorem StI.at {r : Src} {it : Addr} {i : Nat} {h h' : Heap} (st : StI r it i h) (k : ∀ o, h.get? it = some o → h'.get? it = some o) : StI r it i h' := by
  cases r with
  | lst a => exact Heap.IsListIter.at st k
  | tup a => exact Heap.IsTupleIter.at st k
  | txt x => obtain ⟨t, o, e, q⟩ := st; exact ⟨t, o, k o e, q⟩
section
variable {X : Cx} {pins : List (Addr × Obj)} {σ : L2.St} {H : Hp} {s : Shared} {r : Src} {xs ys : List V}
theorem SrcAt.inj (I : Inv X pins σ H s) (h : SrcAt X.K H r xs) (h' : SrcAt X.K H r ys) : xs = ys := by
  cases r with
  | lst a => exact I.list_inj h h'
  | tup a => exact I.tuple_inj h h'
  | txt x => exact Eq.trans h (Eq.symm h')
/-- how it begins -/
theorem SrcAt.begins {u : Value} (I : Inv X pins σ H s) (h : SrcAt X.K H r xs) (ru : RelV r.v u) : ∃ (o : Obj) (Hh : Heap → Prop), Begins u o Hh ∧ Hh s.heap ∧ (∀ (h' : Heap) (it : Addr), h'.get? it = some o → StI r it 0 h') ∧ ∀ b, s.heap.objs.size ≤ b → r.off b := by
  cases r with
  | lst a =>
    obtain ⟨its, rv, p, _⟩ := I.list h
    cases ru
    exact ⟨_, _, begins_list a its.toArray, p.isList, fun h' it e => ⟨_, e, rfl, rfl⟩, fun b hb => Nat.ne_of_lt (Nat.lt_of_lt_of_le p.lt hb)⟩
  | tup a =>
    obtain ⟨its, rv, p, _⟩ := I.tuple h
    obtain ⟨o1, ho1, _⟩ := id p
    cases ru
    exact ⟨_, _, begins_tuple a its.toArray, (show s.heap.IsTuple a its.toArray from p), fun h' it e => ⟨_, e, rfl, rfl⟩, fun b hb => Nat.ne_of_lt (Nat.lt_of_lt_of_le (Heap.lt_size ho1) hb)⟩
  | txt x =>
    obtain ⟨t, rfl⟩ := ru
    exact ⟨_, _, begins_text x t, trivial, fun h' it e => ⟨t, _, e, rfl, rfl⟩, fun b _ => trivial⟩
/-- what it draws -/
theorem SrcAt.draws {it : Addr} {i : Nat} (I : Inv X pins σ H s) (hc : X.calm = true) (h : SrcAt X.K H r xs) (hf : r.off it) (st : StI r it i s.heap) :
    ∃ (fp : List Addr) (Pv : Nat → Value → Prop) (St : Nat → Heap → Prop), Draws X.prog X.w X.A.in1 it fp xs.length Pv St ∧ St i s.heap ∧ (∀ j v, Pv j v → ∃ x, xs[j]? = some x ∧ RelV x v) ∧ (∀ j h, St j h → StI r it j h) ∧ it ∈ fp ∧ ∀ b, r.off b → b ≠ it → b ∉ fp := by
  have hd : X.A.in1.handled = none := I.ok.hd hc
  cases r with
  | lst a =>
    obtain ⟨its, rv, p, _⟩ := I.list h
    have hl := rv.length
    refine ⟨[it, a], (fun i v => its.toArray[i]? = some v), (fun i h => h.IsListIter it a i ∧ h.IsList a its.toArray), by rw [hl]; exact Draws.list hd it a hf its.toArray, ⟨st, p.isList⟩, fun j v q => ?_, fun j h z => z.1, by simp, fun b ob nb => by simp [nb, Ne.symm ob]⟩
    have q' : its[j]? = some v := by simpa using q
    have hj : j < xs.length := by rw [hl]; exact (List.getElem?_eq_some_iff.mp q').1
    obtain ⟨u, hu, ru⟩ := rv.get (List.getElem?_eq_getElem hj)
    rw [hu] at q'; cases q'
    exact ⟨_, List.getElem?_eq_getElem hj, ru⟩
  | tup a =>
    obtain ⟨its, rv, p, _⟩ := I.tuple h
    have hl := rv.length
    refine ⟨[it, a], (fun i v => its.toArray[i]? = some v), (fun i h => h.IsTupleIter it a i ∧ h.IsTuple a its.toArray), by rw [hl]; exact Draws.tuple hd it a hf its.toArray, ⟨st, p⟩, fun j v q => ?_, fun j h z => z.1, by simp, fun b ob nb => by simp [nb, Ne.symm ob]⟩
    have q' : its[j]? = some v := by simpa using q
    have hj : j < xs.length := by rw [hl]; exact (List.getElem?_eq_some_iff.mp q').1
    obtain ⟨u, hu, ru⟩ := rv.get (List.getElem?_eq_getElem hj)
    rw [hu] at q'; cases q'
    exact ⟨_, List.getElem?_eq_getElem hj, ru⟩
  | txt x =>
    have h' : xs = x.cps.toList.map fun c => V.str ⟨#[c]⟩ := h
    subst h'
    obtain ⟨t, st⟩ := st
    refine ⟨[it], (fun i v => ∃ c u, x.cps[i]? = some c ∧ v = .str ⟨#[c]⟩ u), (fun i h => h.IsStrIter it (strIterType x) x t i), by rw [List.length_map, Array.length_toList]; exact Draws.text hd it x t, st, fun j v q => ?_, fun j h z => ⟨t, z⟩, by simp, fun b ob nb => by simp [nb]⟩
    obtain ⟨c, u, hc', rfl⟩ := q
    refine ⟨.str ⟨#[c]⟩, ?_, u, rfl⟩
    rw [List.getElem?_map, Array.getElem?_toList, hc']; rfl
end
/-- the two as they stand at each turn, the items in new pairs -/
def ItzS (K : PySem.W.Frag) (r1 r2 : Src) : It :=
  ⟨fun i H => ∃ (xs ys : List V), SrcAt K H r1 xs ∧ SrcAt K H r2 ys ∧ i < xs.length ∧ i < ys.length,
    fun i H v H' => ∃ T x y, v = .ref T ∧ H T = none ∧ H' = upd H T (.tup [x, y]) ∧ (∀ xs, SrcAt K H r1 xs → xs[i]? = some x) ∧ ∀ ys, SrcAt K H r2 ys → ys[i]? = some y,
    fun i H => ∃ xs ys : List V, SrcAt K H r1 xs ∧ SrcAt K H r2 ys ∧ i ≤ xs.length ∧ i ≤ ys.length ∧ (i = xs.length ∨ i = ys.length)⟩
structure ZAp (z TI TO i1 i2 : Addr) (r1 r2 : Src) : Prop where
  TIz : TI ≠ z
  TOz : TO ≠ z
  TITO : TI ≠ TO
  TIi1 : TI ≠ i1
  TIi2 : TI ≠ i2
  TOi1 : TO ≠ i1
  TOi2 : TO ≠ i2
  zi1 : z ≠ i1
  zi2 : z ≠ i2
  i12 : i1 ≠ i2
  o1 : r1.off z ∧ r1.off TO ∧ r1.off i1 ∧ r1.off i2
  o2 : r2.off z ∧ r2.off TO ∧ r2.off i1 ∧ r2.off i2
theorem turn_zipS {P : Program} {w : World} {K : PySem.W.Frag} {elts : List Expr} {kk : Nat} {tpos : Pos} {z TI TO i1 i2 : Addr} {r1 r2 : Src} (D : ZAp z TI TO i1 i2 r1 r2) :
    Turn P w K (.Tuple elts kk tpos) (ItzS K r1 r2) [z, TI, TO, i1, i2] z (fun i h => IsZip h z TI TO .none ∧ IsTupOf2 h TI (.ref i1) (.ref i2) ∧ (∃ x y, IsTupOf2 h TO x y) ∧ StI r1 i1 i h ∧ StI r2 i2 i h) where
  mem := by simp
  obj := fun i h st c hc => by
    obtain ⟨hz, hTI, ⟨x, y, hTO⟩, s1, s2⟩ := st
    simp only [List.mem_cons, List.not_mem_nil, or_false] at hc
    rcases hc with q | q | q | q | q
    · rw [q]; exact ⟨_, hz, fun v q => nomatch q⟩
    · rw [q]; exact ⟨_, hTI, fun v q => nomatch q⟩
    · rw [q]; exact ⟨_, hTO, fun v q => nomatch q⟩
    · rw [q]; exact s1.obj
    · rw [q]; exact s2.obj
  keep := fun i h h' st k => by
    obtain ⟨hz, hTI, ⟨x, y, hTO⟩, h1, h2⟩ := st
    exact ⟨k z (by simp) _ hz, k TI (by simp) _ hTI, ⟨x, y, k TO (by simp) _ hTO⟩, h1.at fun o q => k i1 (by simp) o q, h2.at fun o q => k i2 (by simp) o q⟩
  item := by
    intro X hP hw hK hc i pins s σ H E I hf st hg
    subst hP hw hK
    obtain ⟨hz, hTI, ⟨x0, y0, hTO⟩, h1, h2⟩ := st
    obtain ⟨xs, ys, hqx, hqy, hx, hy⟩ := hg
    obtain ⟨fp1, P1, S1, D1, st1, r1', b1, m1, n1⟩ := hqx.draws I hc D.o1.2.2.1 h1
    obtain ⟨fp2, P2, S2, D2, st2, r2', b2, m2, n2⟩ := hqy.draws I hc D.o2.2.2.2 h2
    have hzl : z < s.heap.objs.size := Heap.lt_size hz
    have Sp : ZipSep2 z TI TO i1 i2 fp1 fp2 := ⟨D.TIz, D.TOz, D.TITO, D.TIi1, m1, n1 z D.o1.1 D.zi1, n1 TO D.o1.2.1 D.TOi1, D.TIi2, m2, n2 z D.o2.1 D.zi2, n2 TO D.o2.2.1 D.TOi2, n2 i1 D.o2.2.2.1 D.i12, n1 i2 D.o1.2.2.2 (Ne.symm D.i12)⟩
    refine wpAny_pyNext_zipD2_item Sp D1 D2 hz hTI hTO st1 st2 hx hy fun u u2 h' tk p1 p2 z' TO' s1' s2' hT hsz hk => ?_
    obtain ⟨x, gx, ru⟩ := r1' i u p1
    obtain ⟨y, gy, ru2⟩ := r2' i u2 p2
    refine ⟨_, rfl, wpAny_letOwnedTupleGo_zip (s := { s with heap := h', toks := tk }) z' fun h'' z'' sb => ?_⟩
    have hT2 : h''.get? s.heap.objs.size = some { cls := .type "tuple", data := .seq #[u, u2] } := (sb.2 _ (Nat.ne_of_gt hzl)).trans hT
    have new : ObjOk X.prog X.w (upd H s.heap.objs.size (.tup [x, y])) h'' s.heap.objs.size (.tup [x, y]) :=
      ⟨by show 2 ≤ sizeLine; decide, [u, u2], .cons ru (.cons ru2 .nil), ⟨_, hT2, rfl, _, rfl⟩⟩
    have I1 : Inv X pins σ (upd H s.heap.objs.size (.tup [x, y])) { s with heap := h'', toks := tk } :=
      I.turnedNew (t' := tk) (ch := [z, TI, TO, i1, i2]) (fun c o hb q => (sb.2 c (fun q' => hb (by simp [q']))).trans (hk c o (fun q' => hb (by simp [q'])) (fun q' => hb (by simp [q'])) (fun q' => hb (by simp [q'])) (fun q' => hb (by simp [q'])) q)) hf (Nat.le_refl _) new
    refine ⟨.ref s.heap.objs.size, _, I1, rfl, ⟨_, x, y, rfl, I.hok.fresh (Nat.le_refl _), rfl, fun l hl => by rw [hl.inj I hqx]; exact gx, fun l hl => by rw [hl.inj I hqy]; exact gy⟩, ⟨z'', ?_, ⟨u, u2, ?_⟩, ?_, ?_⟩, fun c hcm => ?_⟩
    · exact (sb.2 _ D.TIz).trans (hk _ _ D.TIz D.TITO D.TIi1 D.TIi2 hTI)
    · exact (sb.2 _ D.TOz).trans TO'
    · exact (b1 _ _ s1').at fun o q => (sb.2 _ (Ne.symm D.zi1)).trans q
    · exact (b2 _ _ s2').at fun o q => (sb.2 _ (Ne.symm D.zi2)).trans q
    · have hlt : c < s.heap.objs.size := by
        simp only [List.mem_cons, List.not_mem_nil, or_false] at hcm
        rcases hcm with q | q | q | q | q
        · rw [q]; exact hzl
        · rw [q]; exact Heap.lt_size hTI
        · rw [q]; exact Heap.lt_size hTO
        · rw [q]; obtain ⟨_, e1, _⟩ := h1.obj; exact Heap.lt_size e1
        · rw [q]; obtain ⟨_, e2, _⟩ := h2.obj; exact Heap.lt_size e2
      rw [upd_ne (Nat.ne_of_lt hlt)]
      exact (hf c hcm).1
  done := by
    intro X hP hw hK hc i pins s σ H E I hf st hg
    subst hP hw hK
    obtain ⟨hz, hTI, ⟨x0, y0, hTO⟩, h1, h2⟩ := st
    obtain ⟨xs, ys, hqx, hqy, hl1, hl2, hend⟩ := hg
    obtain ⟨fp1, P1, S1, D1, st1, r1', b1, m1, n1⟩ := hqx.draws I hc D.o1.2.2.1 h1
    obtain ⟨fp2, P2, S2, D2, st2, r2', b2, m2, n2⟩ := hqy.draws I hc D.o2.2.2.2 h2
    have Sp : ZipSep2 z TI TO i1 i2 fp1 fp2 := ⟨D.TIz, D.TOz, D.TITO, D.TIi1, m1, n1 z D.o1.1 D.zi1, n1 TO D.o1.2.1 D.TOi1, D.TIi2, m2, n2 z D.o2.1 D.zi2, n2 TO D.o2.2.1 D.TOi2, n2 i1 D.o2.2.2.1 D.i12, n1 i2 D.o1.2.2.2 (Ne.symm D.i12)⟩
    exact wpAny_pyNext_zipD2_end Sp D1 D2 hz hTI hTO st1 st2 hl1 hl2 hend fun h' tk hk => ⟨rfl, I.turnedL (t' := tk) (ch := [z, TI, TO, i1, i2]) (fun c o hb q =>
      hk c o (fun q' => hb (by simp [q'])) (fun q' => hb (by simp [q'])) (fun q' => hb (by simp [q'])) (fun q' => hb (by simp [q'])) q) hf⟩
  self := fun A i s Q E st h => wpAny_pyIter_zip st.1 h
theorem nn (n a b : Nat) (h : a ≠ b) : n + a ≠ n + b := by omega
def iZipS (K : PySem.W.Frag) (ta : TA) : TI := fun σ H R => ta σ H fun vs H1 => ∃ r1 r2 xs ys, vs = [r1.v, r2.v] ∧ SrcAt K H1 r1 xs ∧ SrcAt K H1 r2 ys ∧ R (ItzS K r1 r2) H1
theorem pi_zipS {X : Cx} {e e2 : Expr} {ta : TA} {p pos tpos : Pos} {elts : List Expr} {kk : Nat} (hg : Gl X "zip") (hm : X.mg "zip" = none) (ha : PA X [e, e2] ta)
    (hs : starEach [e, e2] X.env = (false, eval e X.env) :: starEach [e2] X.env) (hpl : (backTo pos (starEach [e2] X.env)).any (·.1) = false) :
    PI X (.Tuple elts kk tpos) (.Call (.Name "zip" p) [e, e2] [] pos) (iZipS X.K ta) := by
  refine ⟨fun pins s σ H R I h => ?_⟩
  refine Call_ (ld_blt I hg hm PyProof.Rows.boot_zip (PyProof.Rows.callWith_type1 (thn (ha.run pos pins s σ H _ I h) fun us s1 ⟨vs, H1, I1, rr, q1⟩ => ?_) hs hpl))
  obtain ⟨r1, r2, xs, ys, ex, hqx, hqy, q⟩ := q1
  subst ex
  cases rr with
  | cons ra rr =>
    cases rr with
    | cons rb rr =>
      cases rr
      obtain ⟨o1, Hh1, B1, g1, k1, f1⟩ := hqx.begins I1 ra
      obtain ⟨o2, Hh2, B2, g2, k2, f2⟩ := hqy.begins I1 rb
      refine zip_begins2 B1 B2 g1 g2 fun h' hz hTI hTO e1 e2 hsz hk => wpAny_pyIter_zip hz ?_
      have I2 : Inv X pins σ H1 { s1 with heap := h' } := I1.kept (t' := s1.toks) hk
      have ap : ZAp (s1.heap.objs.size + 4) (s1.heap.objs.size + 2) (s1.heap.objs.size + 3) s1.heap.objs.size (s1.heap.objs.size + 1) r1 r2 :=
        ⟨nn _ 2 4 (by decide), nn _ 3 4 (by decide), nn _ 2 3 (by decide), nn _ 2 0 (by decide), nn _ 2 1 (by decide), nn _ 3 0 (by decide), nn _ 3 1 (by decide), nn _ 4 0 (by decide), nn _ 4 1 (by decide), nn _ 0 1 (by decide), ⟨f1 _ (Nat.le_add_right _ _), f1 _ (Nat.le_add_right _ _), f1 _ (Nat.le_refl _), f1 _ (Nat.le_add_right _ _)⟩, ⟨f2 _ (Nat.le_add_right _ _), f2 _ (Nat.le_add_right _ _), f2 _ (Nat.le_refl _), f2 _ (Nat.le_add_right _ _)⟩⟩
      refine ⟨s1.heap.objs.size + 4, [s1.heap.objs.size + 4, s1.heap.objs.size + 2, s1.heap.objs.size + 3, s1.heap.objs.size, s1.heap.objs.size + 1], _, _, H1, rfl, I2, turn_zipS ap, ⟨hz, hTI, ⟨_, _, hTO⟩, k1 _ _ e1, k2 _ _ e2⟩, fun c hcm => ?_, q⟩
      have hle : s1.heap.objs.size ≤ c := by
        simp only [List.mem_cons, List.not_mem_nil, or_false] at hcm
        rcases hcm with z | z | z | z | z <;> rw [z] <;> first | exact Nat.le_refl _ | exact Nat.le_add_right _ _
      exact I1.fpOk hle (I1.hok.fresh hle)
end RA
/-! RA9: how the state changes; what is walked. -/
namespace RA
open PySem PySem.Spec PyProof.Rows L2
variable [Tabs] [LentT]
theorem get_set {α : Type} {l : List α} {i j : Nat} {x y : α} (h : (l.set i x)[j]? = some y) : (j = i ∧ x = y ∧ i < l.length) ∨ (j ≠ i ∧ l[j]? = some y) := by
  by_cases e : j = i
  · subst e
    by_cases hl : j < l.length
    · rw [List.getElem?_set_self hl] at h
      exact .inl ⟨rfl, Option.some.inj h, hl⟩
    · rw [List.getElem?_eq_none (by rw [List.length_set]; omega)] at h; cases h
  · rw [List.getElem?_set_ne (fun z => e z.symm)] at h
    exact .inr ⟨e, h⟩
section
variable {c : Cfg} {B : Addr → Prop} {G : Ev} {σ : L2.St} {H H' : Hp} {i : Nat} {d : D} {v : V} {a : Addr}
theorem own_set (h : Owned (G.set i (some (false, d))) (σ.set i (some v)) a) : Owned G σ a := by
  obtain ⟨j, d', h1, h2⟩ := h
  rcases get_set h1 with ⟨rfl, e, _⟩ | ⟨ne, e⟩
  · cases e
  · rw [List.getElem?_set_ne (fun z => ne z.symm)] at h2
    exact ⟨j, d', e, h2⟩
theorem StOk.set (Su : StOk c B G σ H) (r : Rep c (Zof B G σ) H d v) : StOk c B (G.set i (some (false, d))) (σ.set i (some v)) H := by
  have lz : ∀ b, Zof B (G.set i (some (false, d))) (σ.set i (some v)) b → Zof B G σ b := fun b h => h.imp id own_set
  have oat : ∀ j b, ownedAt (G.set i (some (false, d))) (σ.set i (some v)) j b → ownedAt G σ j b := fun j b ⟨d', h1, h2⟩ => by
    rcases get_set h1 with ⟨rfl, e, _⟩ | ⟨ne, e⟩
    · cases e
    · rw [List.getElem?_set_ne (fun z => ne z.symm)] at h2
      exact ⟨d', e, h2⟩
  refine ⟨by rw [List.length_set, List.length_set, Su.len], Su.tr, Su.tab, fun b h => Su.apart b (own_set h), fun j k b h1 h2 => Su.uniq j k b (oat j b h1) (oat k b h2), fun j d' e => ?_, fun j d' e => ?_⟩
  · rcases get_set e with ⟨rfl, e, hl⟩ | ⟨ne, e⟩
    · cases e
      exact ⟨v, List.getElem?_set_self (by rw [← Su.len]; exact hl), r.less lz⟩
    · obtain ⟨w, h1, h2⟩ := Su.val j d' e
      exact ⟨w, by rw [List.getElem?_set_ne (fun z => ne z.symm)]; exact h1, h2.less lz⟩
  · rcases get_set e with ⟨rfl, e, hl⟩ | ⟨ne, e⟩
    · cases e
    · obtain ⟨w, h1, h2⟩ := Su.own j d' e
      exact ⟨w, by rw [List.getElem?_set_ne (fun z => ne z.symm)]; exact h1, h2.grow fun b z => .inl (lz b z)⟩
theorem own_clr {σ' : L2.St} (hs : ∀ j, j ≠ i → σ'[j]? = σ[j]?) (h : Owned (G.set i none) σ' a) : Owned G σ a := by
  obtain ⟨j, d', h1, h2⟩ := h
  rcases get_set h1 with ⟨rfl, e, _⟩ | ⟨ne, e⟩
  · cases e
  · rw [hs j ne] at h2
    exact ⟨j, d', e, h2⟩
theorem StOk.clr {σ' : L2.St} (Su : StOk c B G σ H) (hl : σ'.length = σ.length) (hs : ∀ j, j ≠ i → σ'[j]? = σ[j]?) : StOk c B (G.set i none) σ' H := by
  have lz : ∀ b, Zof B (G.set i none) σ' b → Zof B G σ b := fun b h => h.imp id (own_clr hs)
  have oat : ∀ j b, ownedAt (G.set i none) σ' j b → ownedAt G σ j b := fun j b ⟨d', h1, h2⟩ => by
    rcases get_set h1 with ⟨rfl, e, _⟩ | ⟨ne, e⟩
    · cases e
    · rw [hs j ne] at h2
      exact ⟨d', e, h2⟩
  refine ⟨by rw [List.length_set, hl, Su.len], Su.tr, Su.tab, fun b h => Su.apart b (own_clr hs h), fun j k b h1 h2 => Su.uniq j k b (oat j b h1) (oat k b h2), fun j d' e => ?_, fun j d' e => ?_⟩
  · rcases get_set e with ⟨rfl, e, _⟩ | ⟨ne, e⟩
    · cases e
    · obtain ⟨w, h1, h2⟩ := Su.val j d' e
      exact ⟨w, by rw [hs j ne]; exact h1, h2.less lz⟩
  · rcases get_set e with ⟨rfl, e, _⟩ | ⟨ne, e⟩
    · cases e
    · obtain ⟨w, h1, h2⟩ := Su.own j d' e
      exact ⟨w, by rw [hs j ne]; exact h1, h2.grow fun b z => .inl (lz b z)⟩
theorem own_own (h : Owned (G.set i (some (true, d))) (σ.set i (some (.ref a))) b) : Owned G σ b ∨ b = a := by
  obtain ⟨j, d', h1, h2⟩ := h
  rcases get_set h1 with ⟨rfl, e, _⟩ | ⟨ne, e⟩
  · rcases get_set h2 with ⟨_, e, _⟩ | ⟨ne, _⟩
    · injection e with e; injection e with e; exact .inr e.symm
    · exact absurd rfl ne
  · rw [List.getElem?_set_ne (fun z => ne z.symm)] at h2
    exact .inl ⟨j, d', e, h2⟩
/-- a new own list or dict at i -/
theorem StOk.own' (Su : StOk c B G σ H) (s : Same H H') (n : H a = none) (o : OwnAt c (fun b => Zof B G σ b ∨ b = a) H' d a) : StOk c B (G.set i (some (true, d))) (σ.set i (some (.ref a))) H' := by
  have lz : ∀ b, Zof B (G.set i (some (true, d))) (σ.set i (some (.ref a))) b → Zof B G σ b ∨ b = a := fun b h => h.elim (fun z => .inl (.inl z)) fun z => (own_own z).imp .inr id
  have gz : ∀ b, Zof B (G.set i (some (true, d))) (σ.set i (some (.ref a))) b → Zof B G σ b ∨ H b = none := fun b h => (lz b h).imp id (fun e => by rw [e]; exact n)
  have no : ¬ Zof B G σ a := fun z => Su.ztr a z n
  have oat : ∀ j b, ownedAt (G.set i (some (true, d))) (σ.set i (some (.ref a))) j b → (j = i ∧ b = a) ∨ (j ≠ i ∧ ownedAt G σ j b) := fun j b ⟨d', h1, h2⟩ => by
    rcases get_set h1 with ⟨rfl, e, _⟩ | ⟨ne, e⟩
    · rcases get_set h2 with ⟨_, e, _⟩ | ⟨ne, _⟩
      · injection e with e; injection e with e; exact .inl ⟨rfl, e.symm⟩
      · exact absurd rfl ne
    · rw [List.getElem?_set_ne (fun z => ne z.symm)] at h2
      exact .inr ⟨ne, d', e, h2⟩
  have Ss := Su.same s
  refine ⟨by rw [List.length_set, List.length_set, Su.len], Ss.tr, Ss.tab, fun b h hb => ?_, fun j k b h1 h2 => ?_, fun j d' e => ?_, fun j d' e => ?_⟩
  · rcases own_own h with z | z
    · exact Su.apart b z hb
    · exact no (.inl (z ▸ hb))
  · rcases oat j b h1 with ⟨e1, e2⟩ | ⟨e1, e2⟩
    · rcases oat k b h2 with ⟨e3, e4⟩ | ⟨e3, e4⟩
      · rw [e1, e3]
      · exact absurd (.inr ⟨k, e2 ▸ e4⟩) no
    · rcases oat k b h2 with ⟨e3, e4⟩ | ⟨e3, e4⟩
      · exact absurd (.inr ⟨j, e4 ▸ e2⟩) no
      · exact Su.uniq j k b e2 e4
  · rcases get_set e with ⟨rfl, e, hl⟩ | ⟨ne, e⟩
    · cases e
    · obtain ⟨w, h1, h2⟩ := Su.val j d' e
      exact ⟨w, by rw [List.getElem?_set_ne (fun z => ne z.symm)]; exact h1, (h2.grow gz).same s⟩
  · rcases get_set e with ⟨rfl, e, hl⟩ | ⟨ne, e⟩
    · cases e
      exact ⟨a, List.getElem?_set_self (by rw [← Su.len]; exact hl), .inl (o.grow fun b z => .inl (lz b z))⟩
    · obtain ⟨w, h1, h2⟩ := Su.own j d' e
      exact ⟨w, by rw [List.getElem?_set_ne (fun z => ne z.symm)]; exact h1, (h2.grow gz).same s⟩
/-- given away -/
theorem StOk.frz (Su : StOk c B G σ H) (e : G[i]? = some (some (true, d))) (nl : isLn d = false) : StOk c B (G.set i (some (false, d))) σ H ∧ ∀ b, Owned (G.set i (some (false, d))) σ b → Owned G σ b := by
  obtain ⟨a, h1, h2⟩ := Su.own i d e
  have oat : ∀ j b, ownedAt (G.set i (some (false, d))) σ j b → j ≠ i ∧ ownedAt G σ j b := fun j b ⟨d', h1, h2⟩ => by
    rcases get_set h1 with ⟨rfl, e, _⟩ | ⟨ne, e⟩
    · cases e
    · exact ⟨ne, d', e, h2⟩
  have lo : ∀ b, Owned (G.set i (some (false, d))) σ b → Owned G σ b := fun b ⟨j, h⟩ => ⟨j, (oat j b h).2⟩
  have lz : ∀ b, Zof B (G.set i (some (false, d))) σ b → Zof B G σ b := fun b h => h.imp id (lo b)
  have na : ¬ Zof B (G.set i (some (false, d))) σ a := fun z => by
    rcases z with z | ⟨j, z⟩
    · exact Su.apart a ⟨i, d, e, h1⟩ z
    · obtain ⟨ne, z⟩ := oat j a z
      exact ne (Su.uniq j i a z ⟨d, e, h1⟩)
  refine ⟨⟨by rw [List.length_set, Su.len], Su.tr, Su.tab, fun b h => Su.apart b (lo b h), fun j k b h1 h2 => Su.uniq j k b (oat j b h1).2 (oat k b h2).2, fun j d' e' => ?_, fun j d' e' => ?_⟩, lo⟩
  · rcases get_set e' with ⟨rfl, e', hl⟩ | ⟨ne, e'⟩
    · cases e'
      exact ⟨.ref a, h1, ((h2.out nl).grow fun b z => .inl (lz b z)).rep na⟩
    · obtain ⟨w, h1, h2⟩ := Su.val j d' e'
      exact ⟨w, h1, h2.less lz⟩
  · rcases get_set e' with ⟨rfl, e', hl⟩ | ⟨ne, e'⟩
    · cases e'
    · obtain ⟨w, h1, h2⟩ := Su.own j d' e'
      exact ⟨w, h1, h2.grow fun b z => .inl (lz b z)⟩
/-- written -/
theorem StOk.wrL {d' : D} (Su : StOk c B G σ H) (e : G[i]? = some (some (true, d))) (hs : σ[i]? = some (some (.ref a))) (hx : ∀ b, b ≠ a → H b ≠ none → H' b = H b) (o : OwnL c (Zof B G σ) H' d' a) : StOk c B (G.set i (some (true, d'))) σ H' ∧ ∀ b, Owned (G.set i (some (true, d'))) σ b → Owned G σ b := by
  have oat : ∀ j b, ownedAt (G.set i (some (true, d'))) σ j b → ownedAt G σ j b := fun j b ⟨d2, h1, h2⟩ => by
    rcases get_set h1 with ⟨rfl, e', _⟩ | ⟨ne, e'⟩
    · exact ⟨d, e, h2⟩
    · exact ⟨d2, e', h2⟩
  have lo : ∀ b, Owned (G.set i (some (true, d'))) σ b → Owned G σ b := fun b ⟨j, h⟩ => ⟨j, oat j b h⟩
  have lz : ∀ b, Zof B (G.set i (some (true, d'))) σ b → Zof B G σ b := fun b h => h.imp id (lo b)
  have oa : Owned G σ a := ⟨i, d, e, hs⟩
  obtain ⟨a', ha', oa'⟩ := Su.own i d e
  have ea : a' = a := by rw [hs] at ha'; injection ha' with ha'; injection ha' with ha'; injection ha' with ha'; exact ha'.symm
  rw [ea] at oa'
  obtain ⟨u, hu1, hu2⟩ := oa'.some
  have ex : Ext (Zof B G σ) H H' := Ext.wr hu1 hu2 (.inr oa) hx
  refine ⟨⟨by rw [List.length_set, Su.len], fun b hb => ?_, ex.tab Su.tab, fun b h => Su.apart b (lo b h), fun j k b h1 h2 => Su.uniq j k b (oat j b h1) (oat k b h2), fun j d2 e' => ?_, fun j d2 e' => ?_⟩, lo⟩
  · have ne : b ≠ a := fun z => Su.apart a oa (z ▸ hb)
    rw [hx b ne (Su.tr b hb)]; exact Su.tr b hb
  · rcases get_set e' with ⟨rfl, e', hl⟩ | ⟨ne, e'⟩
    · cases e'
    · obtain ⟨w, h1, h2⟩ := Su.val j d2 e'
      exact ⟨w, h1, (h2.mono ex).less lz⟩
  · rcases get_set e' with ⟨rfl, e', hl⟩ | ⟨ne, e'⟩
    · cases e'
      exact ⟨a, hs, o.grow fun b z => .inl (lz b z)⟩
    · obtain ⟨w, h1, h2⟩ := Su.own j d2 e'
      have nw : w ≠ a := fun z => ne (Su.uniq j i a ⟨d2, e', z ▸ h1⟩ ⟨d, e, hs⟩)
      exact ⟨w, h1, (h2.mono ex (hx w nw h2.there)).grow fun b z => .inl (lz b z)⟩
theorem StOk.wr {d' : D} (Su : StOk c B G σ H) (e : G[i]? = some (some (true, d))) (hs : σ[i]? = some (some (.ref a))) (hx : ∀ b, b ≠ a → H b ≠ none → H' b = H b) (o : OwnAt c (Zof B G σ) H' d' a) : StOk c B (G.set i (some (true, d'))) σ H' ∧ ∀ b, Owned (G.set i (some (true, d'))) σ b → Owned G σ b := Su.wrL e hs hx (.inl o)
end
/-! ### targets -/
def gAll : List Nat → TGs
  | [] => gNil
  | i :: is => gCons (gName i) (gAll is)
def gTg (K : PySem.W.Frag) : Tg → TG
  | .one i => gName i
  | .tup is => gTup K is.length (gAll is)
section
variable {S : Stat} {X : Cx} {O : OpT} {sc : Scope}
theorem assignEach_names {sl : Str → Bool} : ∀ {is : List Nat} {es : List Expr}, okTs S sl is es = true → ∀ env, (assignEach es env).length = is.length ∧ (assignEach es env).findIdx? (·.1) = none ∧ ∀ e r, es = e :: r → (assignEach es env).map (·.2) = assign e env :: (assignEach r env).map (·.2)
  | [], [], _, env => ⟨rfl, rfl, fun e r z => by cases z⟩
  | [], _ :: _, h, _ => by simp [okTs] at h
  | _ :: _, [], h, _ => by simp [okTs] at h
  | i :: is, e :: es, h, env => by
    cases e <;> simp only [okTs, Bool.false_eq_true] at h
    rename_i x p
    simp only [Bool.and_eq_true, decide_eq_true_eq] at h
    obtain ⟨h1, h2, _⟩ := assignEach_names h.2 env
    have e1 : assignEach (.Name x p :: es) env = (false, assign (.Name x p) env) :: assignEach es env := rfl
    refine ⟨by rw [e1, List.length_cons, List.length_cons, h1], ?_, fun e r z => by cases z; rfl⟩
    rw [e1, List.findIdx?_cons]
    simp only [Bool.false_eq_true, if_false, h2]
    rfl
theorem pgs_all {sl : Str → Bool} (hN : X.N = S.N) (hnd : X.N.Nodup) (hsc : ∀ x, sl x = true → Loc X.env.scope x ∧ (X.fn x = true ∨ X.env.scope.names.lookup x = some .local)) : ∀ {is : List Nat} {es : List Expr}, okTs S sl is es = true → PGs X es (gAll is)
  | [], [], _ => pgs_nil
  | [], _ :: _, h => by simp [okTs] at h
  | _ :: _, [], h => by simp [okTs] at h
  | i :: is, e :: es, h => by
    have ha := (assignEach_names h X.env).2.2 e es rfl
    cases e <;> simp only [okTs, Bool.false_eq_true] at h
    rename_i x p
    simp only [Bool.and_eq_true, decide_eq_true_eq] at h
    refine pgs_cons (pg_name hnd (by rw [hN]; exact h.1.1) (hsc _ h.1.2).1 (hsc _ h.1.2).2) (pgs_all hN hnd hsc h.2) ha
theorem pg_tg {sl : Str → Bool} (hN : X.N = S.N) (hnd : X.N.Nodup) (hsc : ∀ x, sl x = true → Loc X.env.scope x ∧ (X.fn x = true ∨ X.env.scope.names.lookup x = some .local)) (hc : X.calm = true) {tg : Tg} {e : Expr} (h : okT S sl tg e = true) : PG X e (gTg X.K tg) := by
  cases tg with
  | one i =>
    cases e <;> simp only [okT, Bool.false_eq_true] at h
    simp only [Bool.and_eq_true, decide_eq_true_eq] at h
    exact pg_name hnd (by rw [hN]; exact h.1) (hsc _ h.2).1 (hsc _ h.2).2
  | tup is =>
    cases e <;> simp only [okT, Bool.false_eq_true] at h
    simp only [Bool.and_eq_true, decide_eq_true_eq] at h
    obtain ⟨h1, h2, _⟩ := assignEach_names h.1 X.env
    exact pg_tup hc (pgs_all hN hnd hsc h.1) h1 h2
end
/-- the slots of the targets -/
def tgAt : Tg → L2.St → L2.St → Prop := fun tg σ σ' => σ'.length = σ.length ∧ ∀ j, j ∉ tgSlots tg → σ'[j]? = σ[j]?
section
variable {c : Cfg} {B : Addr → Prop} {H : Hp}
theorem gAll_ok : ∀ {is : List Nat} {ds : List D} {vs : List V} {G : Ev} {σ : L2.St} {Q : L2.St → Hp → Prop}, is.length = ds.length → Reps c (Zof B G σ) H ds vs → StOk c B G σ H →
    (∀ σ', StOk c B (setAll is ds G) σ' H → (∀ b, Owned (setAll is ds G) σ' b → Owned G σ b) → tgAt (.tup is) σ σ' → Q σ' H) → gAll is vs σ H Q
  | [], [], _, G, σ, Q, _, .nil, Su, q => ⟨rfl, q σ Su (fun _ h => h) ⟨rfl, fun _ _ => rfl⟩⟩
  | i :: is, d :: ds, v :: vs, G, σ, Q, hl, .cons r t, Su, q => by
    refine ⟨v, vs, rfl, gAll_ok (is := is) (ds := ds) (G := G.set i (some (false, d))) (by simpa using hl) ?_ (Su.set r) fun σ' Su' lo at' => q σ' Su' (fun b h => own_set (lo b h)) ⟨by rw [at'.1, List.length_set], fun j hj => ?_⟩⟩
    · exact t.less fun b h => h.imp id own_set
    · have hj' : j ≠ i ∧ j ∉ is := by simpa [tgSlots] using hj
      rw [at'.2 j hj'.2, List.getElem?_set_ne (fun z => hj'.1 z.symm)]
  | [], _ :: _, _, _, _, _, hl, _, _, _ => by cases hl
  | _ :: _, [], _, _, _, _, hl, _, _, _ => by cases hl
theorem gTg_ok {tg : Tg} {d : D} {v : V} {G G' : Ev} {σ : L2.St} {Q : L2.St → Hp → Prop} (hb : bindT tg d G = some G') (r : Rep c (Zof B G σ) H d v) (Su : StOk c B G σ H)
    (q : ∀ σ', StOk c B G' σ' H → (∀ b, Owned G' σ' b → Owned G σ b) → tgAt tg σ σ' → Q σ' H) : gTg c.K tg v σ H Q := by
  cases tg with
  | one i =>
    cases hb
    exact q _ (Su.set r) (fun b h => own_set h) ⟨List.length_set, fun j hj => List.getElem?_set_ne (fun z => hj (by simp [tgSlots, z]))⟩
  | tup is =>
    cases d <;> simp only [bindT] at hb <;> first | (cases hb; done) | skip
    rename_i ds
    split at hb
    · rename_i hl
      cases hb
      cases r with
      | tup t r => exact ⟨_, _, rfl, t.sq, by rw [← r.length]; exact hl.symm, gAll_ok hl r Su q⟩
    · cases hb
end
/-! ### what is walked -/
def Zw (Z : Addr → Prop) (H : Hp) (a : Addr) : Prop := Z a ∨ H a = none
def WalkD (c : Cfg) (Z : Addr → Prop) (H1 : Hp) (J : It) (ds : List D) : Prop :=
  ∃ Y, Walk J ds.length (fun H => Ext (Zw Z H1) H1 H) Y ∧ ∀ i H x H' (Z2 : Addr → Prop), i < ds.length → Ext (Zw Z H1) H1 H → Y i H x H' → (∀ b, Z2 b → Zw Z H1 b) → (∀ b, Z2 b → H b ≠ none) → Same H H' ∧ ∃ d, ds[i]? = some d ∧ Rep c Z2 H' d x
section
variable {c : Cfg} {Z Z2 : Addr → Prop} {H1 H : Hp} {d : D} {v : V}
theorem Rep.late (h : Rep c Z H1 d v) (e : Ext (Zw Z H1) H1 H) (hz : ∀ b, Z2 b → Zw Z H1 b) : Rep c Z2 H d v := ((h.grow (B' := Zw Z H1) fun b z => z).mono e).less hz
theorem LstAt.late {a : Addr} {vs : List V} (h : LstAt c.K c.scr Z H1 a vs) (e : Ext (Zw Z H1) H1 H) : SqL c.K H a vs := ((h.grow (B' := Zw Z H1) fun b z => z).mono e).sq
theorem TupAt.late {a : Addr} {vs : List V} (h : TupAt c.K Z H1 a vs) (e : Ext (Zw Z H1) H1 H) : SqT c.K H a vs := ((h.grow (B' := Zw Z H1) fun b z => z).mono e).sq
theorem walkD_list {a : Addr} {vs : List V} {ds : List D} (h : LstAt c.K c.scr Z H1 a vs) (r : Reps c Z H1 ds vs) : WalkD c Z H1 (Itl c.K a) ds := by
  refine ⟨YAt vs, by rw [r.length]; exact walk_list.mono (fun H e => h.late e) fun _ _ _ _ _ _ y => y, fun i H x H' Z2 hi e y hz ht => ?_⟩
  obtain ⟨rfl, y⟩ := y
  obtain ⟨d, h1, h2⟩ := r.getV y
  exact ⟨Same.refl _, d, h1, h2.late e hz⟩
theorem walkD_tup {a : Addr} {vs : List V} {ds : List D} (h : TupAt c.K Z H1 a vs) (r : Reps c Z H1 ds vs) : WalkD c Z H1 (Itt c.K a) ds := by
  refine ⟨YAt vs, by rw [r.length]; exact walk_tup.mono (fun H e => h.late e) fun _ _ _ _ _ _ y => y, fun i H x H' Z2 hi e y hz ht => ?_⟩
  obtain ⟨rfl, y⟩ := y
  obtain ⟨d, h1, h2⟩ := r.getV y
  exact ⟨Same.refl _, d, h1, h2.late e hz⟩
theorem walkD_str {s : List Nat} : WalkD c Z H1 (Its ⟨⟨s⟩⟩) (s.map fun ch => .str [ch]) := by
  refine ⟨_, by rw [List.length_map]; exact (walk_str (z := ⟨⟨s⟩⟩)).mono (fun H e => trivial) fun _ _ _ _ _ _ y => y, fun i H x H' Z2 hi e y hz ht => ?_⟩
  obtain ⟨rfl, ch, y, rfl⟩ := y
  have y' : s[i]? = some ch := by simpa using y
  exact ⟨Same.refl _, .str [ch], by rw [List.getElem?_map, y']; rfl, .str [ch]⟩
theorem walkD_range {lo hi : Int} : WalkD c Z H1 (Itr lo (hi - lo).toNat) (rangeD lo hi) := by
  have hl : (rangeD lo hi).length = (hi - lo).toNat := by unfold rangeD; rw [List.length_map, List.length_range]
  refine ⟨_, by rw [hl]; exact (walk_range (lo := lo) (n := (hi - lo).toNat)).mono (fun H e => trivial) fun _ _ _ _ _ _ y => y, fun i H x H' Z2 hi' e y hz ht => ?_⟩
  obtain ⟨rfl, rfl⟩ := y
  rw [hl] at hi'
  refine ⟨Same.refl _, .int (lo + i), ?_, .int _⟩
  unfold rangeD
  rw [List.getElem?_map, List.getElem?_range hi']; rfl
theorem walkD_rev {a : Addr} {vs : List V} {ds : List D} (h : LstAt c.K c.scr Z H1 a vs) (r : Reps c Z H1 ds vs) : WalkD c Z H1 (Itv c.K a vs.length) ds.reverse := by
  refine ⟨_, by rw [List.length_reverse, r.length]; exact (walk_rev (xs := vs)).mono (fun H e => h.late e) fun _ _ _ _ _ _ y => y, fun i H x H' Z2 hi e y hz ht => ?_⟩
  obtain ⟨rfl, y⟩ := y
  obtain ⟨d, h1, h2⟩ := r.getV y
  rw [List.length_reverse] at hi
  refine ⟨Same.refl _, d, ?_, h2.late e hz⟩
  rw [List.getElem?_reverse hi, r.length]
  exact h1
theorem zipD_len : ∀ ds es : List D, (zipD ds es).length = min ds.length es.length
  | [], _ => by simp [zipD]
  | _ :: _, [] => by simp [zipD]
  | d :: ds, e :: es => by
    show (zipD ds es).length + 1 = _
    rw [zipD_len ds es, List.length_cons, List.length_cons]; omega
theorem zipD_get : ∀ (ds es : List D) (i : Nat) (d e : D), ds[i]? = some d → es[i]? = some e → (zipD ds es)[i]? = some (.tup [d, e])
  | [], _, _, _, _, h, _ => by simp at h
  | _ :: _, [], _, _, _, _, h => by simp at h
  | d :: ds, e :: es, 0, _, _, h, h2 => by
    have e1 : d = _ := Option.some.inj h
    have e2 : e = _ := Option.some.inj h2
    rw [e1, e2]; rfl
  | d :: ds, e :: es, i + 1, d', e', h, h2 => zipD_get ds es i d' e' (by simpa using h) (by simpa using h2)
theorem pair_ok {i : Nat} {x : V} {H' : Hp} {vs ws : List V} {ds es : List D} (e : Ext (Zw Z H1) H1 H) (y : YPair (fun i => vs[i]?) (fun i => ws[i]?) i H x H') (hz : ∀ b, Z2 b → Zw Z H1 b) (ht : ∀ b, Z2 b → H b ≠ none)
    (r : Reps c Z H1 ds vs) (r2 : Reps c Z H1 es ws) : Same H H' ∧ ∃ d, (zipD ds es)[i]? = some d ∧ Rep c Z2 H' d x := by
  obtain ⟨T, p, q, rfl, nT, rfl, hp, hq⟩ := y
  obtain ⟨d1, g1, k1⟩ := r.getV hp
  obtain ⟨d2, g2, k2⟩ := r2.getV hq
  have sm := Same.new (o := .tup [p, q]) nT
  exact ⟨sm, _, zipD_get _ _ _ _ _ g1 g2, .tup (.of upd_same fun z => ht T z nT) (.cons ((k1.late e hz).same sm) (.cons ((k2.late e hz).same sm) .nil))⟩
/-- a source's data -/
def SrcD (c : Cfg) (Z : Addr → Prop) (H1 : Hp) (r : Src) (ds : List D) : Prop := ∃ vs, Reps c Z H1 ds vs ∧ ∀ H, Ext (Zw Z H1) H1 H → SrcAt c.K H r vs
theorem reps_str : ∀ s : List Nat, Reps c Z H1 (s.map fun ch => .str [ch]) (s.map fun c => V.str ⟨#[c]⟩)
  | [] => .nil
  | x :: s => .cons (.str [x]) (reps_str s)
theorem srcD_of {H0 : Hp} {f : Fl} {d : D} {ds : List D} {v : V} (h : RepF c Z H0 H1 (f, d) v) (hf : f ≠ .tmp) (ht : ∀ a, Z a → H0 a ≠ none) (hi : itemsD d = some ds) : ∃ r, v = r.v ∧ SrcD c Z H1 r ds := by
  have k := h.keep hf ht
  cases d <;> simp only [itemsD, reduceCtorEq] at hi
  · have e := Option.some.inj hi
    rename_i s
    have k' : v = .str ⟨⟨s⟩⟩ := by cases k; rfl
    subst e k'
    refine ⟨.txt ⟨⟨s⟩⟩, rfl, s.map fun c => V.str ⟨#[c]⟩, ?_, fun H _ => rfl⟩
    exact reps_str s
  · have e := Option.some.inj hi
    subst e
    cases k with
    | tup t r => exact ⟨.tup _, rfl, _, r, fun H e => t.late e⟩
  · have e := Option.some.inj hi
    subst e
    cases k with
    | lst t r => exact ⟨.lst _, rfl, _, r, fun H e => t.late e⟩
theorem walkD_zipS {r1 r2 : Src} {ds es : List D} (h : SrcD c Z H1 r1 ds) (h2 : SrcD c Z H1 r2 es) : WalkD c Z H1 (ItzS c.K r1 r2) (zipD ds es) := by
  obtain ⟨vs, r, q⟩ := h
  obtain ⟨ws, r2', q2⟩ := h2
  refine ⟨YPair (fun i => vs[i]?) (fun i => ws[i]?), ⟨fun i H hi e => ?_, fun H e => ?_, fun i H x H' hi e y => ?_⟩, fun i H x H' Z2 hi e y hz ht => pair_ok e y hz ht r r2'⟩
  · rw [zipD_len, r.length, r2'.length] at hi
    exact ⟨vs, ws, q H e, q2 H e, by omega, by omega⟩
  · rw [zipD_len, r.length, r2'.length]
    exact ⟨vs, ws, q H e, q2 H e, by omega, by omega, by omega⟩
  · obtain ⟨T, p, w, h3, h4, h5, h6, h7⟩ := y
    exact ⟨T, p, w, h3, h4, h5, h6 vs (q H e), h7 ws (q2 H e)⟩
end
end RA
/-! RA10: what is walked, comprehensions. -/
namespace RA
open PySem PySem.Spec PyProof.Rows L2
variable [Tabs] [LentT]
def ResI (c : Cfg) (Z : Addr → Prop) (W : WX) (σ : L2.St) (H : Hp) (r : Rs (List D)) (R : It → Hp → Prop) : Prop := match r with
  | .no => False
  | .ok ds => ∀ J H1, Same H H1 → WalkD c Z H1 J ds → R J H1
  | .ex x fs => ∀ cls dd H', Same H H' → ExcAt c Z H' x fs cls dd → W cls dd σ H'
def tI (c : Cfg) (B : Addr → Prop) (W : WX) (G : Ev) (r : Rs (List D)) : TI := fun σ H R => StOk c B G σ H ∧ ResI c (Zof B G σ) W σ H r R
theorem _root_.L2.PI.weak {X : Cx} {tg e : Expr} {t t' : TI} (h : PI X tg e t) (k : ∀ σ H Q, t' σ H Q → t σ H Q) : PI X tg e t' := ⟨fun pins s σ H Q I q => h.run pins s σ H Q I (k σ H Q q)⟩
theorem _root_.L2.PI.never {X : Cx} {tg e : Expr} {t : TI} (k : ∀ σ H Q, ¬ t σ H Q) : PI X tg e t := ⟨fun pins s σ H Q I q => (k σ H Q q).elim⟩
section
variable {S : Stat} {X : Cx} {O : OpT} {W : WX} {sc : Scope} {B : Addr → Prop} {G : Ev}
/-- a list that may be kept -/
theorem RepF.lstK {c : Cfg} {Z : Addr → Prop} {H H' : Hp} {f : Fl} {ds : List D} {v : V} (h : RepF c Z H H' (f, .lst ds) v) (hf : f ≠ .tmp) (ht : ∀ a, Z a → H a ≠ none) : ∃ a vs, v = .ref a ∧ LstAt c.K c.scr Z H' a vs ∧ Reps c Z H' ds vs := by
  have k := h.keep hf ht
  cases k with
  | lst l r => exact ⟨_, _, rfl, l, r⟩
theorem oki_ex {x : IE} {tg e : Expr} (hx : PE X e (tE (cfg X O) B W G (ev S.F x G))) : PI X tg e (tI (cfg X O) B W G (evI S.F (.ex x) G)) := by
  cases ea : ev S.F x G with
  | no => exact PI.never fun σ H Q ⟨Su, R⟩ => by simp only [evI, ea, Rs.bind_no] at R; exact R
  | ex n fs =>
    refine (pi_list hx).weak fun σ H Q ⟨Su, R⟩ => ?_
    simp only [evI, ea, Rs.bind_ex] at R
    show tE _ _ _ _ _ σ H _
    rw [ea]
    exact ⟨Su, R⟩
  | ok a =>
    obtain ⟨f, d⟩ := a
    cases d with
    | lst ds =>
      refine (pi_list hx).weak fun σ H Q ⟨Su, R⟩ => ?_
      simp only [evI, ea, Rs.bind_ok, itemsD] at R
      split at R
      · exact False.elim R
      · rename_i hf
        show tE _ _ _ _ _ σ H _
        rw [ea]
        refine ⟨Su, fun v H1 s1 rv => ?_⟩
        obtain ⟨a, vs, rfl, h1, h2⟩ := rv.lstK hf Su.ztr
        exact ⟨a, rfl, ⟨vs, h1.sq⟩, R _ _ s1 (walkD_list h1 h2)⟩
    | tup ds =>
      refine (pi_tup hx).weak fun σ H Q ⟨Su, R⟩ => ?_
      simp only [evI, ea, Rs.bind_ok, itemsD] at R
      split at R
      · exact False.elim R
      · rename_i hf
        show tE _ _ _ _ _ σ H _
        rw [ea]
        refine ⟨Su, fun v H1 s1 rv => ?_⟩
        obtain ⟨a, vs, rfl, h1, h2⟩ := rv.tup
        exact ⟨a, rfl, ⟨vs, h1.sq⟩, R _ _ s1 (walkD_tup h1 h2)⟩
    | str t =>
      refine (pi_str hx).weak fun σ H Q ⟨Su, R⟩ => ?_
      simp only [evI, ea, Rs.bind_ok, itemsD] at R
      split at R
      · exact False.elim R
      · show tE _ _ _ _ _ σ H _
        rw [ea]
        exact ⟨Su, fun v H1 s1 rv => ⟨_, rv.str, R _ _ s1 walkD_str⟩⟩
    | _ => exact PI.never fun σ H Q ⟨Su, R⟩ => by
             simp only [evI, ea, Rs.bind_ok, itemsD] at R
             split at R <;> exact R
theorem oki_rng1 (C : CtxB S X O W sc) {x : IE} {tg a : Expr} {y : Str} {p pos : Pos} (hb : okB S sc "range" y = true) (hp : Plain1 a) (hx : PE X a (tE (cfg X O) B W G (ev S.F x G))) : PI X tg (.Call (.Name y p) [a] [] pos) (tI (cfg X O) B W G (evI S.F (.rng1 x) G)) := by
  obtain ⟨rfl, hg, hm, hn, hd⟩ := okB_of C hb
  refine (pi_range1 hg hm (pa_cons hx pa_nil (star_cons hp)) (star_cons hp)).weak fun σ H Q ⟨Su, R⟩ => ?_
  simp only [evI] at R
  show tE _ _ _ _ _ σ H _
  cases ea : ev S.F x G with
  | no => rw [ea] at R; exact False.elim R
  | ex n fs => rw [ea] at R; exact ⟨Su, R⟩
  | ok a =>
    rw [ea, Rs.bind_ok] at R
    refine ⟨Su, fun v H1 s1 rv => ?_⟩
    obtain ⟨f, d⟩ := a
    cases d with
    | int j =>
      have R' : ResI (cfg X O) (Zof B G σ) W σ H (if smallI j = true then .ok (rangeD 0 j) else .no) Q := R
      split at R'
      · rename_i hs
        have hs' := of_decide_eq_true hs
        refine ⟨j, by rw [rv.int], hs'.1, hs'.2, ?_⟩
        have w := walkD_range (c := cfg X O) (Z := Zof B G σ) (H1 := H1) (lo := 0) (hi := j)
        rw [Int.sub_zero] at w
        exact R' _ _ s1 w
      · exact False.elim R'
    | _ => exact False.elim R
theorem oki_rng2 (C : CtxB S X O W sc) {x z : IE} {tg a b : Expr} {y : Str} {p pos : Pos} (hb : okB S sc "range" y = true) (hp : Plain1 a) (hp2 : Plain1 b) (hx : PE X a (tE (cfg X O) B W G (ev S.F x G))) (hz : PE X b (tE (cfg X O) B W G (ev S.F z G))) :
    PI X tg (.Call (.Name y p) [a, b] [] pos) (tI (cfg X O) B W G (evI S.F (.rng2 x z) G)) := by
  obtain ⟨rfl, hg, hm, hn, hd⟩ := okB_of C hb
  have e2 : starEach [b] X.env = [(false, eval b X.env)] := star_cons hp2
  refine (pi_range2 hg hm (pa_cons hx (pa_cons hz pa_nil (star_cons hp2)) (star_cons hp)) (by rw [star_cons hp, e2]) e2).weak fun σ H Q ⟨Su, R⟩ => ?_
  simp only [evI] at R
  show tE _ _ _ _ _ σ H fun v H1 => tE _ _ _ _ _ σ H1 _
  cases ea : ev S.F x G with
  | no => rw [ea] at R; exact False.elim R
  | ex n fs => rw [ea] at R; exact ⟨Su, R⟩
  | ok a =>
    rw [ea, Rs.bind_ok] at R
    refine ⟨Su, fun v H1 s1 rv => ⟨Su.same s1, ?_⟩⟩
    cases eb : ev S.F z G with
    | no => rw [eb] at R; exact False.elim R
    | ex n fs => rw [eb] at R; exact fun cls dd H' s' e' => R cls dd H' (s1.trans s') e'
    | ok b =>
      rw [eb, Rs.bind_ok] at R
      refine fun w H2 s2 rw' => ?_
      obtain ⟨f, d⟩ := a
      obtain ⟨g, e⟩ := b
      cases d with
      | int i =>
        cases e with
        | int j =>
          have R' : ResI (cfg X O) (Zof B G σ) W σ H (if (smallI i && smallI j) = true then .ok (rangeD i j) else .no) Q := R
          split at R'
          · rename_i hs
            rw [Bool.and_eq_true] at hs
            have h1 := of_decide_eq_true hs.1
            have h2 := of_decide_eq_true hs.2
            exact ⟨i, j, by rw [rv.int, rw'.int], ⟨h1.1, h1.2, h2.1, h2.2⟩, R' _ _ (s1.trans s2) walkD_range⟩
          · exact False.elim R'
        | _ => exact False.elim R
      | _ => exact False.elim R
theorem oki_rev (C : CtxB S X O W sc) {x : IE} {tg a : Expr} {y : Str} {p pos : Pos} (hb : okB S sc "reversed" y = true) (hp : Plain1 a) (hx : PE X a (tE (cfg X O) B W G (ev S.F x G))) : PI X tg (.Call (.Name y p) [a] [] pos) (tI (cfg X O) B W G (evI S.F (.rev x) G)) := by
  obtain ⟨rfl, hg, hm, hn, hd⟩ := okB_of C hb
  refine (pi_reversed hg hm (pa_cons hx pa_nil (star_cons hp)) (star_cons hp)).weak fun σ H Q ⟨Su, R⟩ => ?_
  simp only [evI] at R
  show tE _ _ _ _ _ σ H _
  cases ea : ev S.F x G with
  | no => rw [ea] at R; exact False.elim R
  | ex n fs => rw [ea] at R; exact ⟨Su, R⟩
  | ok a =>
    rw [ea, Rs.bind_ok] at R
    split at R
    · exact False.elim R
    · rename_i hf
      refine ⟨Su, fun v H1 s1 rv => ?_⟩
      obtain ⟨f, d⟩ := a
      cases d with
      | lst ds =>
        obtain ⟨a, vs, rfl, h1, h2⟩ := rv.lstK hf Su.ztr
        exact ⟨a, vs, rfl, h1.sq, R _ _ s1 (walkD_rev h1 h2)⟩
      | _ => exact False.elim R
theorem oki_zip (C : CtxB S X O W sc) {x z : IE} {a b : Expr} {elts : List Expr} {kk : Nat} {y : Str} {p pos tpos : Pos} (hb : okB S sc "zip" y = true) (hp : Plain1 a) (hp2 : Plain1 b) (hx : PE X a (tE (cfg X O) B W G (ev S.F x G))) (hz : PE X b (tE (cfg X O) B W G (ev S.F z G))) :
    PI X (.Tuple elts kk tpos) (.Call (.Name y p) [a, b] [] pos) (tI (cfg X O) B W G (evI S.F (.zip2 x z) G)) := by
  obtain ⟨rfl, hg, hm, hn, hd⟩ := okB_of C hb
  have e2 : starEach [b] X.env = [(false, eval b X.env)] := star_cons hp2
  refine (pi_zipS hg hm (pa_cons hx (pa_cons hz pa_nil (star_cons hp2)) (star_cons hp)) (star_cons hp) (by rw [e2]; rfl)).weak fun σ H Q ⟨Su, R⟩ => ?_
  simp only [evI] at R
  show tE _ _ _ _ _ σ H fun v H1 => tE _ _ _ _ _ σ H1 _
  cases ea : ev S.F x G with
  | no => rw [ea] at R; exact False.elim R
  | ex n fs => rw [ea] at R; exact ⟨Su, R⟩
  | ok a =>
    rw [ea, Rs.bind_ok] at R
    refine ⟨Su, fun v H1 s1 rv => ⟨Su.same s1, ?_⟩⟩
    cases eb : ev S.F z G with
    | no => rw [eb] at R; exact False.elim R
    | ex n fs => rw [eb] at R; exact fun cls dd H' s' e' => R cls dd H' (s1.trans s') e'
    | ok b =>
      rw [eb, Rs.bind_ok] at R
      split at R
      · exact False.elim R
      · rename_i hf
        simp only [not_or] at hf
        refine fun w H2 s2 rw' => ?_
        obtain ⟨f, d⟩ := a
        obtain ⟨g, e⟩ := b
        cases ed : itemsD d with
        | none => rw [ed] at R; exact False.elim R
        | some ds =>
          cases ee : itemsD e with
          | none => rw [ed, ee] at R; exact False.elim R
          | some es =>
            rw [ed, ee] at R
            obtain ⟨r1, rfl, q1⟩ := srcD_of (rv.mono s2) hf.1 Su.ztr ed
            obtain ⟨r2, rfl, q2⟩ := srcD_of (rw'.back s1) hf.2 Su.ztr ee
            obtain ⟨vs, _, g1⟩ := id q1
            obtain ⟨ws, _, g2⟩ := id q2
            exact ⟨r1, r2, vs, ws, rfl, g1 H2 (Ext.refl _ _), g2 H2 (Ext.refl _ _), R _ _ (s1.trans s2) (walkD_zipS q1 q2)⟩
end
/-! ### comprehensions -/
theorem wipe_get {σ : L2.St} {j : Nat} : ∀ {vs : List Nat}, (wipe σ vs)[j]? = if j ∈ vs then (if j < σ.length then some none else none) else σ[j]?
  | [] => by simp [wipe]
  | v :: vs => by
    unfold wipe
    by_cases e : j = v
    · subst e
      rw [if_pos List.mem_cons_self]
      by_cases hl : j < σ.length
      · rw [if_pos hl, List.getElem?_set_self (by rw [wipe_length]; exact hl)]
      · rw [if_neg hl, List.getElem?_eq_none (by rw [List.length_set, wipe_length]; omega)]
    · rw [List.getElem?_set_ne (fun z => e z.symm), wipe_get (vs := vs)]
      simp [e]
theorem wipe_eq {σ σ2 : L2.St} {vs : List Nat} (hl : σ2.length = (wipe σ vs).length) (h : ∀ j, j ∉ vs → σ2[j]? = (wipe σ vs)[j]?) : wipe σ2 vs = wipe σ vs := by
  refine List.ext_getElem? fun j => ?_
  rw [wipe_length] at hl
  by_cases e : j ∈ vs
  · rw [wipe_get, wipe_get, if_pos e, if_pos e, hl]
  · rw [wipe_get, if_neg e, h j e]
theorem forget_get {G : Ev} {j : Nat} : ∀ {vs : List Nat}, j ∉ vs → (forget vs G)[j]? = G[j]?
  | [], _ => rfl
  | v :: vs, h => by
    have h' : j ≠ v ∧ j ∉ vs := by simpa using h
    unfold forget
    rw [List.getElem?_set_ne (fun z => h'.1 z.symm), forget_get h'.2]
theorem setAll_get {j : Nat} : ∀ {is : List Nat} {ds : List D} {G : Ev}, j ∉ is → (setAll is ds G)[j]? = G[j]?
  | [], _, _, _ => by simp [setAll]
  | _ :: _, [], _, _ => by simp [setAll]
  | i :: is, d :: ds, G, h => by
    have h' : j ≠ i ∧ j ∉ is := by simpa using h
    unfold setAll
    rw [setAll_get h'.2, List.getElem?_set_ne (fun z => h'.1 z.symm)]
theorem bindT_get {tg : Tg} {d : D} {G G' : Ev} {j : Nat} (h : bindT tg d G = some G') (hj : j ∉ tgSlots tg) : G'[j]? = G[j]? := by
  cases tg with
  | one i =>
    cases h
    exact List.getElem?_set_ne fun z => hj (by simp [tgSlots, z])
  | tup is =>
    cases d <;> simp only [bindT] at h <;> first | (cases h; done) | skip
    split at h
    · cases h; exact setAll_get hj
    · cases h
section
variable {c : Cfg} {B : Addr → Prop} {G : Ev} {σ : L2.St} {H : Hp}
theorem StOk.wiped (Su : StOk c B G σ H) : ∀ vs : List Nat, StOk c B (forget vs G) (wipe σ vs) H
  | [] => Su
  | v :: vs => (Su.wiped vs).clr List.length_set fun j hj => List.getElem?_set_ne fun z => hj z.symm
theorem own_wiped {vs : List Nat} {a : Addr} (h : Owned (forget vs G) (wipe σ vs) a) : Owned G σ a := by
  obtain ⟨j, d, h1, h2⟩ := h
  by_cases e : j ∈ vs
  · rw [wipe_get, if_pos e] at h2
    split at h2 <;> cases h2
  · rw [forget_get e] at h1
    rw [wipe_get, if_neg e] at h2
    exact ⟨j, d, h1, h2⟩
/-- one more address to keep off -/
theorem StOk.more (Su : StOk c B G σ H) {D : Addr} {H' : Hp} (s : Same H H') (n : H D = none) (t : H' D ≠ none) : StOk c (fun b => B b ∨ b = D) G σ H' := by
  have gz : ∀ b, Zof (fun b => B b ∨ b = D) G σ b → Zof B G σ b ∨ H b = none := fun b h => by
    rcases h with (h | h) | h
    · exact .inl (.inl h)
    · exact .inr (by rw [h]; exact n)
    · exact .inl (.inr h)
  refine ⟨Su.len, fun b h => ?_, s.tab Su.tab, fun b h hb => ?_, Su.uniq, fun j d e => ?_, fun j d e => ?_⟩
  · rcases h with h | h
    · exact (Su.same s).tr b h
    · rw [h]; exact t
  · rcases hb with hb | hb
    · exact Su.apart b h hb
    · exact Su.ztr b (.inr h) (by rw [hb]; exact n)
  · obtain ⟨w, h1, h2⟩ := Su.val j d e
    exact ⟨w, h1, (h2.grow gz).same s⟩
  · obtain ⟨w, h1, h2⟩ := Su.own j d e
    exact ⟨w, h1, (h2.grow gz).same s⟩
end
abbrev W0 : WX := fun _ _ _ _ => False
theorem _root_.L2.PE.any {X : Cx} {e : Expr} {α : Type} {t : α → TE} (h : ∀ g, PE X e (t g)) : PE X e (fun σ H Q => ∃ g, t g σ H Q) := ⟨fun pins s σ H Q I ⟨g, q⟩ => (h g).run pins s σ H Q I q⟩
theorem _root_.L2.PT.any {X : Cx} {e : Expr} {α : Type} {t : α → TT} (h : ∀ g, PT X e (t g)) : PT X e (fun σ H Q => ∃ g, t g σ H Q) := ⟨fun pins s σ H Q I ⟨g, q⟩ => (h g).run pins s σ H Q I q⟩
section
variable {S : Stat} {X : Cx} {O : OpT} {W : WX} {sc : Scope} {B : Addr → Prop} {G : Ev}
theorem blk_ok (C : CtxB S X O W sc) (scope : Scope) (hk : scope.kind = .function) (s : Shared) (H : Hp) (Cn : Addr) (cl : List (Str × Addr)) (fp : List Addr) : CtxB S (X.blk s H scope (compEnvC scope cl Cn X.env) fp) O W0 (relS scope sc) :=
  ⟨C.N, C.nd, hk, by rw [← C.sc]; rfl, C.calm, C.room, fun _ _ x => by
    obtain ⟨_, _, _, _, _, _, _, _, _, _, _, _, _, _, _, _, z⟩ := x
    exact z.elim, C.bs, C.fs, C.gs⟩
/-- parts and what they come to -/
inductive Parts (S : Stat) (X : Cx) (O : OpT) (W : WX) (sc : Scope) (B : Addr → Prop) (G : Ev) : List Expr → IEs → Prop
  | nil : Parts S X O W sc B G [] .nil
  | cons {e : Expr} {x : IE} {es : List Expr} {as : IEs} : okE S x sc e = true → PE X e (tE (cfg X O) B W G (ev S.F x G)) → Parts S X O W sc B G es as → Parts S X O W sc B G (e :: es) (.cons x as)
theorem Parts.pa {es : List Expr} {as : IEs} (h : Parts S X O W sc B G es as) : PA X es (tA (cfg X O) B W G (evs S.F as G)) := by
  induction h with
  | nil => exact okA_nil
  | cons k p _ ih => exact okA_cons (okE_plain k) p ih
/-- a further expression comes to what the small language says -/
def XeOk (S : Stat) (c : Cfg) (t : XT) : Prop := ∀ (X : Cx) (O : OpT) (W : WX) (sc : Scope) (B : Addr → Prop) (G : Ev) (e : Expr) (es : List Expr) (as : IEs), cfg X O = c → CtxB S X O W sc → xtDec t S sc e = some es →
  Parts S X O W sc B G es as → PE X e (tE (cfg X O) B W G ((evs S.F as G).bind (xtD S.F t)))
/-- a further walk is told -/
def XwOk (S : Stat) (c : Cfg) (w : WK) : Prop := ∀ (X : Cx) (O : OpT) (W : WX) (sc : Scope) (B : Addr → Prop) (G : Ev) (tg e : Expr) (es : List Expr) (as : IEs), cfg X O = c → CtxB S X O W sc → wkDec w S sc tg e = some es →
  Parts S X O W sc B G es as → PI X tg e (tI (cfg X O) B W G ((evs S.F as G).bind (wkD w))) ∧ ∀ env x, foldedSetIterable e env x = pure x
def XtOk (S : Stat) (c : Cfg) : XT → Prop
  | .wk w => XwOk S c w
  | t => XeOk S c t
theorem XtOk.use {S : Stat} {c : Cfg} {t : XT} {sc : Scope} {e : Expr} {es : List Expr} (h : XtOk S c t) (d : xtDec t S sc e = some es) : XeOk S c t := by
  cases t <;> first | exact h | (exfalso; unfold xtDec at d; split at d <;> first | contradiction | (cases d; done))
structure CtxOk (S : Stat) (X : Cx) (O : OpT) (W : WX) (sc : Scope) : Prop extends CtxB S X O W sc where
  xt : ∀ t, S.xts.contains t = true → XtOk S (cfg X O) t
theorem blk_okX (C : CtxOk S X O W sc) (scope : Scope) (hk : scope.kind = .function) (s : Shared) (H : Hp) (Cn : Addr) (cl : List (Str × Addr)) (fp : List Addr) : CtxOk S (X.blk s H scope (compEnvC scope cl Cn X.env) fp) O W0 (relS scope sc) :=
  ⟨blk_ok C.toCtxB scope hk s H Cn cl fp, C.xt⟩
theorem own_slots {tg : Tg} : (ownNames S tg).map (·.2) = tgSlots tg := by
  cases tg with
  | one i => rfl
  | tup is => simp [ownNames, tgSlots, Function.comp_def]
theorem comp_read {c : Cfg} {tg : Tg} {it : II} {t e : IE} {tt : TT}
    (htt : ∀ (B' : Addr → Prop) (G' : Ev) (b : Bool) (σ : L2.St) (H : Hp) (Q : Bool → Hp → Prop), asB (ev S.F t G') = .ok b → StOk c B' G' σ H → (∀ H', Same H H' → Q b H') → tt σ H Q) {σ : L2.St} {H : Hp} {Q : VK}
    (hq : tE c B W G (ev S.F (.comp tg it t e) G) σ H Q) : tLc (tI c B W G (evI S.F it G)) (gTg c.K tg) tt (fun σ H Q => ∃ g : (Addr → Prop) × Ev, tE c g.1 W0 g.2 (ev S.F e g.2) σ H Q) (tgSlots tg) σ H Q := by
  obtain ⟨Su, R⟩ := hq
  show tI _ _ _ _ _ σ H _
  simp only [ev] at R
  cases eI : evI S.F it G with
  | no => rw [eI] at R; exact False.elim R
  | ex n fs => rw [eI] at R; exact ⟨Su, R⟩
  | ok ds =>
    rw [eI, Rs.bind_ok] at R
    split at R
    rotate_left
    · exact False.elim R
    rename_i hfr
    obtain ⟨hfr, hlen⟩ := hfr
    generalize hGw : forget (tgSlots tg) G = Gw at R
    cases eC : compGo (fun G' => asB (ev S.F t G')) (fun G' => ev S.F e G') tg Gw ds with
    | no => rw [eC] at R; exact False.elim R
    | ex n fs => rw [eC] at R; exact False.elim R
    | ok rs =>
      rw [eC] at R
      have R' : ∀ v H', Same H H' → RepF c (Zof B G σ) H H' (.own, .lst rs) v → Q v H' := R
      refine ⟨Su, fun J H1 s1 ⟨Y, w, hy⟩ => fun D nD => ?_⟩
      have nD0 : H D = none := s1.free nD
      have Sw : StOk c B Gw (wipe σ (tgSlots tg)) H1 := by rw [← hGw]; exact (Su.same s1).wiped _
      have lw : ∀ b, Zof B Gw (wipe σ (tgSlots tg)) b → Zof B G σ b := fun b h => h.imp id fun z => own_wiped (by rw [← hGw] at z; exact z)
      refine lc_it (g := gTg c.K tg) (tt := tt) (te := fun σ H Q => ∃ g : (Addr → Prop) × Ev, tE c g.1 W0 g.2 (ev S.F e g.2) σ H Q) (vs := tgSlots tg) (σ := σ) (H1 := H1) (D := D) (Qd := fun H => Q (.ref D) H) w (fun i H2 => ∃ done vs, H2 D = some (.lst vs) ∧ Reps c (fun b => Zof B G σ b ∨ b = D) H2 done vs ∧ Same H1 H2 ∧ vs.length ≤ i ∧ ∃ rest, compGo (fun G' => asB (ev S.F t G')) (fun G' => ev S.F e G') tg Gw (ds.drop i) = .ok rest ∧ done ++ rest = rs) ?_ ?_ ?_ ?_
      · exact ⟨[], [], upd_same, .nil, Same.new nD, Nat.le_refl _, rs, by rw [List.drop_zero]; exact eC, rfl⟩
      · rintro i H2 hi ⟨done, vs, h1, h2, s2, h3, _⟩
        exact Same.ext s2
      · rintro i x H2 H3 hi ⟨done, vs, hD, hr, s2, hl, rest, eR, eq⟩ hY
        have Su2 : StOk c B G σ H2 := (Su.same s1).same s2
        obtain ⟨s3, d, hd, rd⟩ := hy i H2 x H3 (Zof B G σ) hi (Same.ext s2) hY (fun b z => .inl z) Su2.ztr
        rw [List.drop_eq_getElem_cons hi] at eR
        have ed : ds[i] = d := by rw [List.getElem?_eq_getElem hi] at hd; exact Option.some.inj hd
        rw [ed] at eR
        unfold compGo at eR
        cases eB : bindT tg d Gw with
        | none => rw [eB] at eR; cases eR
        | some G' =>
          rw [eB] at eR
          dsimp only at eR
          have hD3 : H3 D = some (.lst vs) := s3.keep _ _ hD trivial
          have Sb : StOk c (fun b => B b ∨ b = D) Gw (wipe σ (tgSlots tg)) H3 := Sw.more (s2.trans s3) nD (by rw [hD3]; intro z; cases z)
          refine gTg_ok  eB (B := fun b => B b ∨ b = D) ?_ Sb fun σ2 S2 lo at2 => ⟨wipe_eq at2.1 at2.2, ?_⟩
          · have e1 : Reps c (Zof B G σ) H2 [d] [x] → True := fun _ => trivial
            have := hy i H2 x H3 (fun b => Zof B G σ b ∨ b = D) hi (Same.ext s2) hY (fun b z => z.elim .inl fun e => .inr (by rw [e]; exact nD)) (fun b z => z.elim (Su2.ztr b) fun e => by rw [e, hD]; intro z; cases z)
            obtain ⟨_, d', hd', rd'⟩ := this
            rw [hd] at hd'; cases hd'
            exact rd'.less fun b h => by
              rcases h with (h | h) | h
              · exact .inl (.inl h)
              · exact .inr h
              · exact .inl (lw b (.inr h))
          · cases eT : asB (ev S.F t G') with
            | no => rw [eT] at eR; cases eR
            | ex n fs => rw [eT] at eR; cases eR
            | ok b =>
              rw [eT, Rs.bind_ok] at eR
              refine htt _ G' b σ2 H3 _ eT S2 fun H4 s4 => ?_
              cases b with
              | false =>
                rw [if_neg Bool.false_ne_true] at eR ⊢
                exact ⟨done, vs, s4.keep _ _ hD3 trivial, (hr.same s3).same s4, (s2.trans s3).trans s4, Nat.le_succ_of_le hl, rest, eR, eq⟩
              | true =>
                rw [if_pos rfl] at eR ⊢
                refine ⟨(fun b => B b ∨ b = D, G'), S2.same s4, ?_⟩
                cases eE : ev S.F e G' with
                | no => rw [eE] at eR; cases eR
                | ex n fs => rw [eE] at eR; cases eR
                | ok r =>
                  rw [eE, Rs.bind_ok] at eR
                  split at eR
                  · cases eR
                  · rename_i hf
                    cases eN : compGo (fun G' => asB (ev S.F t G')) (fun G' => ev S.F e G') tg Gw (ds.drop (i + 1)) with
                    | no => rw [eN] at eR; cases eR
                    | ex n fs => rw [eN] at eR; cases eR
                    | ok rest' =>
                      rw [eN, Rs.bind_ok] at eR
                      cases eR
                      intro y H5 s5 ry
                      have hD4 := s4.keep _ _ hD3 trivial
                      have hD5 := s5.keep _ _ hD4 trivial
                      refine ⟨vs, hD5, by omega, done ++ [r.2], vs ++ [y], upd_same, ?_, (((s2.trans s3).trans s4).trans s5).updNew nD hD5 trivial, by rw [List.length_append]; exact Nat.succ_le_succ hl, rest', rfl, by rw [List.append_assoc]; exact eq⟩
                      · have ex : Ext (fun b => Zof B G σ b ∨ b = D) H5 (upd H5 D (.lst (vs ++ [y]))) := Ext.upd hD5 trivial (.inr rfl)
                        refine Reps.app ((((hr.same s3).same s4).same s5).mono ex) (.cons ?_ .nil)
                        have k := ry.keep hf (S2.same s4).ztr
                        refine (k.less fun b h => ?_).mono ex
                        rcases h with (h | ⟨j, d2, h1, h2⟩) | h
                        · exact .inl (.inl h)
                        · have nj : j ∉ tgSlots tg := fun z => by
                            have := List.all_eq_true.mp hfr j z
                            unfold freeAt at this
                            rw [h1] at this
                            cases this
                          refine .inr ⟨j, d2, ?_, ?_⟩
                          · rw [bindT_get eB nj, ← hGw, forget_get nj]; exact h1
                          · rw [at2.2 j nj, wipe_get, if_neg nj]; exact h2
                        · exact .inl (.inr h)
      · rintro H2 ⟨done, vs, hD, hr, s2, hl, rest, eR, eq⟩
        rw [List.drop_length] at eR
        cases eR
        rw [List.append_nil] at eq
        subst eq
        exact R' _ _ (s1.trans s2) ⟨D, rfl, nD0, .lst hD hr⟩
theorem ok_comp (C : CtxB S X O W sc) {tg : Tg} {it : II} {t e : IE} {tg' iter elt : Expr} {ifs : List Expr} {scope : Scope} {pos : Pos} {tt : TT} (hb : blkC S.N sc scope (ownNames S tg) = true) (ht : okT S (stF scope) tg tg' = true)
    (hI : PI X tg' iter (tI (cfg X O) B W G (evI S.F it G))) (hs : ∀ x, foldedSetIterable iter X.env x = pure x)
    (hT : ∀ (s : Shared) (H : Hp) (Cn : Addr) (cl : List (Str × Addr)) (fp : List Addr), PTs (X.blk s H scope (compEnvC scope cl Cn X.env) fp) ifs tt)
    (htt : ∀ (B' : Addr → Prop) (G' : Ev) (b : Bool) (σ : L2.St) (H : Hp) (Q : Bool → Hp → Prop), asB (ev S.F t G') = .ok b → StOk (cfg X O) B' G' σ H → (∀ H', Same H H' → Q b H') → tt σ H Q)
    (hE : ∀ (s : Shared) (H : Hp) (Cn : Addr) (cl : List (Str × Addr)) (fp : List Addr) (B' : Addr → Prop) (G' : Ev), PE (X.blk s H scope (compEnvC scope cl Cn X.env) fp) elt (tE (cfg X O) B' W0 G' (ev S.F e G'))) :
    PE X (.ListComp elt [⟨tg', iter, ifs, 0⟩] scope pos) (tE (cfg X O) B W G (ev S.F (.comp tg it t e) G)) ∧
      ∀ (i : Nat) (y : Str) (py spos : Pos), X.N[i]? = some y → X.env.scope.names.lookup y = some .local → swapsWith (.ListComp elt [⟨tg', iter, ifs, 0⟩] scope pos) (some (.Name y py)) spos.line X.env = pure true →
        PS X (.Assign [.Name y py] (.ListComp elt [⟨tg', iter, ifs, 0⟩] scope pos) spos) (tAsg (tE (cfg X O) B W G (ev S.F (.comp tg it t e) G)) (gName i)) := by
  have ok : BlkOk X.N X.env.scope scope (ownNames S tg) := by rw [C.N, C.sc]; exact blkOk_by hb
  have hG := fun (s : Shared) (H : Hp) (Cn : Addr) (cl : List (Str × Addr)) (fp : List Addr) => pg_tg (X := X.blk s H scope (compEnvC scope cl Cn X.env) fp) (S := S) (sl := stF scope) C.N C.nd (fun x hx => by
    unfold stF at hx
    rw [Bool.or_eq_true] at hx
    rcases hx with hx | hx
    · have k := lookup_relS_keep (sc := X.env.scope) (by decide) (of_decide_eq_true hx)
      exact ⟨.inl k, .inr k⟩
    · have k := lookup_relS_keep (sc := X.env.scope) (by decide) (of_decide_eq_true hx)
      exact ⟨.inr k, .inl (by show (scope.names.lookup x == some .cell) = true; rw [of_decide_eq_true hx]; rfl)⟩) C.calm ht
  have hE' := fun (s : Shared) (H : Hp) (Cn : Addr) (cl : List (Str × Addr)) (fp : List Addr) => PE.any (α := (Addr → Prop) × Ev) fun g => hE s H Cn cl fp g.1 g.2
  refine ⟨(pe_lc (g := gTg X.K tg) C.calm C.nd hI ok hG hT hE' hs).weak fun σ H Q hq => ?_, fun i y py spos hi hy hsw => (ps_setLc (g := gTg X.K tg) C.calm C.nd hi hy hsw hI ok hG hT hE' hs).weak fun D σ H hq => ?_⟩
  · rw [own_slots]
    exact comp_read (c := cfg X O) htt hq
  · rw [own_slots]
    exact comp_read (c := cfg X O) htt hq
end
end RA
/-! RA11: every expression that is checked comes to what the small language says. -/
namespace RA
open PySem PySem.Spec PyProof.Rows L2
variable [Tabs] [LentT]
theorem PW.of {X : Cx} {op : BoolOp} {es : List Expr} {p : Pos} {t : TT} (h : PT X (.BoolOp op es p) t) : PW X (.BoolOp op es p) t := ⟨fun wh => h.run⟩
section
variable {O : OpT}
theorem ok_dnew {S : Stat} {X : Cx} {W : WX} {B : Addr → Prop} {G : Ev} {p : Pos} : PE X (.Dict [] [] p) (tE (cfg X O) B W G (ev S.F (.dct .nil .nil) G)) := by
  refine ⟨fun pins s σ H Q I ⟨Su, R⟩ => ?_⟩
  have R' : ∀ v H', Same H H' → RepF (cfg X O) (Zof B G σ) H H' (.own, .dct []) v → Q v H' := R
  have hb : sysModules < s.heap.objs.size := I.big
  have nf : H s.heap.objs.size = none := I.hok.fresh (Nat.le_refl _)
  let o : HO := .ext fun h => ([] : List (Leaf × Value)).length ≤ sizeLine ∧ (s.heap.objs.size == sysModules) = false ∧ h.DictOf (kindX X.prog X.w true) s.heap.objs.size []
  have hne : (s.heap.objs.size == sysModules) = false := beq_eq_false_iff_ne.mpr (Ne.symm (Nat.ne_of_lt hb))
  refine wpAny_Dict_empty ⟨.ref s.heap.objs.size, upd H s.heap.objs.size o, I.laid (a := s.heap.objs.size) (o := o) (t' := s.toks) (fun _ _ q => Heap.get?_push_of_some _ q) (Nat.le_refl _) ?_, rfl, R' _ _ (Same.new nf) ⟨_, rfl, nf, .dctK upd_same .nil⟩⟩
  refine ⟨⟨Nat.zero_le _, hne, Heap.DictOf.new s.heap⟩, ⟨_, Heap.get?_push_size _ rfl⟩, fun h1 h2 z k => ⟨z.1, z.2.1, z.2.2.at k⟩⟩
/-- {k: v} -/
def tD1 (c : Cfg) (e : Bool) (tk tv : TE) : TE := fun σ H Q => ∀ p, H p = none → tk σ (upd H p (.ext (phK c.P c.w e p []))) fun x H1 => tv σ H1 fun y H2 => H2 p = some (.ext (phK c.P c.w e p [])) ∧ ∃ (Z : Addr → Prop) (k d : D), leafy k = true ∧ e = !isBl k ∧ Rep c Z H2 k x ∧ Rep c Z H2 d y ∧
  ∀ us, RepK c Z H2 [(k, d)] us → Q (.ref p) (upd H2 p (.ext (phK c.P c.w e p us)))
theorem pe_disp1 {X : Cx} {e : Bool} {kx vx : Expr} {tk tv : TE} {pos : Pos} (hk : PE X kx tk) (hv : PE X vx tv) : PE X (.Dict [some kx] [vx] pos) (tD1 (cfg X O) e tk tv) := by
  refine ⟨fun pins s σ H Q I q => ?_⟩
  have hn := I.hok.fresh (Nat.le_refl s.heap.objs.size)
  have hb : sysModules < s.heap.objs.size := I.big
  have hne : (s.heap.objs.size == sysModules) = false := beq_eq_false_iff_ne.mpr (Ne.symm (Nat.ne_of_lt hb))
  have new0 : ObjOk X.prog X.w H (s.heap.push { cls := .type "dict", data := .dict #[] }) s.heap.objs.size (.ext (phK X.prog X.w e s.heap.objs.size [])) :=
    ⟨⟨Nat.zero_le _, hne, Heap.DictOf.new s.heap⟩, ⟨_, Heap.get?_push_size _ rfl⟩, fun h1 h2 z k => ⟨z.1, z.2.1, z.2.2.at k⟩⟩
  have I1 := I.laid (a := s.heap.objs.size) (o := .ext (phK X.prog X.w e s.heap.objs.size [])) (h' := s.heap.push { cls := .type "dict", data := .dict #[] }) (t' := s.toks) (fun _ _ q => Heap.get?_push_of_some _ q) (Nat.le_refl _) new0
  refine wpAny_Dict_walk (knd := kindX X.prog X.w e) rfl rfl (by simp) (by simp) (thn ((pps_cons hk hv pps_nil).run pins _ σ _ (fun ps H2 => match ps with
    | [(x, y)] => H2 s.heap.objs.size = some (.ext (phK X.prog X.w e s.heap.objs.size [])) ∧ ∃ (Z : Addr → Prop) (k d : D), leafy k = true ∧ e = !isBl k ∧ Rep (cfg X O) Z H2 k x ∧ Rep (cfg X O) Z H2 d y ∧
        ∀ us, RepK (cfg X O) Z H2 [(k, d)] us → Q (.ref s.heap.objs.size) (upd H2 s.heap.objs.size (.ext (phK X.prog X.w e s.heap.objs.size us)))
    | _ => False) I1 (q _ hn)) fun ws s2 ⟨ps, H2, I2, rel, hq⟩ => ?_)
  · split at hq
    rotate_left
    · exact hq.elim
    rename_i x y
    obtain ⟨e', Z, k, d, hl, he0, rk, rd, q2⟩ := hq
    cases rel with
    | @cons _ pq _ _ hp ht =>
      cases ht
      obtain ⟨u1, u2⟩ := pq
      obtain ⟨l, hl⟩ := leafy_of hl
      have ph := (show ObjOk X.prog X.w H2 s2.heap s.heap.objs.size _ from I2.hok _ _ e').1
      refine ⟨[(l, u2)], ⟨leaf_is hl (fun z => not_bl (he0 ▸ z)) rk hp.1, rfl, True.intro⟩, ph.2.2, fun h' dd' hs => ⟨.ref s.heap.objs.size, _, ?_, rfl, q2 [(l, u2)] (.cons hl rd hp.2 .nil)⟩⟩
      have he : ∃ q, h'.get? s.heap.objs.size = some q := let ⟨q, _, _, hq, _⟩ := dd'; ⟨q, hq⟩
      exact d_write I2 (by rw [e']; exact True.intro) hs he ⟨⟨by rw [List.length_singleton, sizeLine_eq]; omega, hne, dd'⟩, he, fun h1 h2 z k => ⟨z.1, z.2.1, z.2.2.at k⟩⟩
/-- {k: v}, k a tuple -/
def tD1T (c : Cfg) (tk tv : TE) : TE := fun σ H Q => ∀ p, H p = none → tk σ (upd H p (.ext (phT c.P c.w p []))) fun x H1 => tv σ H1 fun y H2 => H2 p = some (.ext (phT c.P c.w p [])) ∧ ∃ (Z : Addr → Prop) (k d : D), tupKey k = true ∧ Rep c Z H2 k x ∧ Rep c Z H2 d y ∧
  ∀ us, RepT c Z H2 [(k, d)] us → Q (.ref p) (upd H2 p (.ext (phT c.P c.w p us)))
theorem pe_disp1T {X : Cx} {kx vx : Expr} {tk tv : TE} {pos : Pos} (hu : X.A.units + 64 < cLine) (hk : PE X kx tk) (hv : PE X vx tv) : PE X (.Dict [some kx] [vx] pos) (tD1T (cfg X O) tk tv) := by
  refine ⟨fun pins s σ H Q I q => ?_⟩
  have hn := I.hok.fresh (Nat.le_refl s.heap.objs.size)
  have hb : sysModules < s.heap.objs.size := I.big
  have hne : (s.heap.objs.size == sysModules) = false := beq_eq_false_iff_ne.mpr (Ne.symm (Nat.ne_of_lt hb))
  have newH : (s.heap.push { cls := .type "dict", data := .dict #[] }).DictOfH (nestedKind X.prog X.w) s.heap.objs.size [] := Heap.DictOfH.new s.heap
  have ph0 := phT_of (X := X) (us := []) (Nat.zero_le _) hne newH
  have new0 : ObjOk X.prog X.w H (s.heap.push { cls := .type "dict", data := .dict #[] }) s.heap.objs.size (.ext (phT X.prog X.w s.heap.objs.size [])) :=
    ⟨ph0, ⟨_, Heap.get?_push_size _ rfl⟩, fun h1 h2 z k => phT_at h1 h2 z k⟩
  have I1 := I.laid (a := s.heap.objs.size) (o := .ext (phT X.prog X.w s.heap.objs.size [])) (h' := s.heap.push { cls := .type "dict", data := .dict #[] }) (t' := s.toks) (fun _ _ q => Heap.get?_push_of_some _ q) (Nat.le_refl _) new0
  have hr : (nestedKind X.prog X.w).room X.A := by show X.A.units + 8 < cLine; omega
  refine wpAny_Dict_one hr (thn ((pps_cons hk hv pps_nil).run pins _ σ _ (fun ps H2 => match ps with
    | [(x, y)] => H2 s.heap.objs.size = some (.ext (phT X.prog X.w s.heap.objs.size [])) ∧ ∃ (Z : Addr → Prop) (k d : D), tupKey k = true ∧ Rep (cfg X O) Z H2 k x ∧ Rep (cfg X O) Z H2 d y ∧
        ∀ us, RepT (cfg X O) Z H2 [(k, d)] us → Q (.ref s.heap.objs.size) (upd H2 s.heap.objs.size (.ext (phT X.prog X.w s.heap.objs.size us)))
    | _ => False) I1 (q _ hn)) fun ws s2 ⟨ps, H2, I2, rel, hq⟩ => ?_)
  · split at hq
    rotate_left
    · exact hq.elim
    rename_i x y
    obtain ⟨e, Z, k, d, hl, rk, rd, q2⟩ := hq
    cases rel with
    | @cons _ pq _ _ hp ht =>
      cases ht
      obtain ⟨u1, u2⟩ := pq
      obtain ⟨ks, l, rfl, hl, hdp⟩ := tupKey_of hl
      obtain ⟨q0, rfl, kq⟩ := RepF.tupv (H0 := H2) (f := .val) rk
      obtain rfl : u1 = Value.ref q0 := hp.1
      have ph := (show ObjOk X.prog X.w H2 s2.heap s.heap.objs.size _ from I2.hok _ _ e).1
      refine ⟨q0, l, u2, rfl, ⟨key_is I2 kq hl rfl, hdp⟩, dictH (O := O) (Z := Z) I2 .nil ph, fun h' dd' hs t => ⟨.ref s.heap.objs.size, _, ?_, rfl, q2 [(l, q0, u2)] (.cons hl hdp kq rd hp.2 .nil)⟩⟩
      have he : ∃ q, h'.get? s.heap.objs.size = some q := let ⟨q, _, _, hq, _⟩ := dd'; ⟨q, hq⟩
      exact d_write I2 (by rw [e]; exact True.intro) hs he ⟨phT_of (by rw [List.length_singleton, sizeLine_eq]; omega) hne dd', he, fun h1 h2 z k => phT_at h1 h2 z k⟩
theorem exc_less {c : Cfg} {Z Z' : Addr → Prop} {H : Hp} {x : Nat} {fs : List D} {cls : Value} {dd : Option Addr} (h : ExcAt c Z H x fs cls dd) (hz : ∀ b, Z' b → Z b) : ExcAt c Z' H x fs cls dd :=
  ⟨h.1, h.2.imp id fun ⟨d, vs, e1, nb, e2, e3⟩ => ⟨d, vs, e1, fun z => nb (hz d z), e2, e3.less hz⟩⟩
theorem ok_dct1L {S : Stat} {X : Cx} {W : WX} {B : Addr → Prop} {G : Ev} {k v : IE} {kx vx : Expr} {p : Pos} (hk : ∀ B', PE X kx (tE (cfg X O) B' W G (ev S.F k G))) (hv : ∀ B', PE X vx (tE (cfg X O) B' W G (ev S.F v G))) :
    PE X (.Dict [some kx] [vx] p) (fun σ H Q => (∀ r, ev S.F k G = .ok r → tupKey r.2 = false) ∧ tE (cfg X O) B W G (ev S.F (.dct (.cons k .nil) (.cons v .nil)) G) σ H Q) := by
  generalize he : (match ev S.F k G with | .ok r => !isBl r.2 | _ => true) = e0
  refine (pe_disp1 (O := O) (e := e0) (PE.any hk) (PE.any hv)).weak fun σ H Q ⟨nt, Su, R⟩ => ?_
  intro a na
  have sm := Same.new (o := .ext (phK X.prog X.w e0 a [])) na
  have Sm := Su.more sm na (by rw [upd_same]; intro z; cases z)
  have lz : ∀ b, Zof B G σ b → Zof (fun b => B b ∨ b = a) G σ b := fun b z => z.imp .inl id
  simp only [ev, evs] at R
  refine ⟨fun b => B b ∨ b = a, Sm, ?_⟩
  cases ek : ev S.F k G with
  | no => rw [ek] at R; exact R
  | ex n fs => rw [ek] at R; exact fun cls dd H' s e => R cls dd H' (sm.trans s) (exc_less e lz)
  | ok rk =>
    rw [ek] at R he
    have he : (!isBl rk.2) = e0 := he
    refine fun x H1 s1 hx => ⟨fun b => B b ∨ b = a, Sm.same s1, ?_⟩
    cases ev' : ev S.F v G with
    | no => rw [ev'] at R; exact R
    | ex n fs => rw [ev'] at R; exact fun cls dd H' s e => R cls dd H' ((sm.trans s1).trans s) (exc_less e lz)
    | ok rv =>
      rw [ev'] at R
      refine fun y H2 s2 hy => ⟨s2.keep _ _ (s1.keep _ _ upd_same trivial) trivial, Zof (fun b => B b ∨ b = a) G σ, rk.2, rv.2, ?_⟩
      have R' : ResE (cfg X O) B (Zof B G σ) W σ H (match putAll [rk] [rv] [] with | some kvs => .ok (.own, .dct kvs) | none => .no) Q := R
      have ep : putAll [rk] [rv] [] = if (keysOk [] rk.2 && decide (rv.1 ≠ .tmp)) = true then some [(rk.2, rv.2)] else none := rfl
      rw [ep] at R'
      split at R'
      · rename_i kvs e
        split at e
        · rename_i hc
          cases e
          rw [Bool.and_eq_true] at hc
          have hl : leafy rk.2 = true := by
            have := hc.1
            unfold keysOk keysL keysT at this
            rw [nt rk ek, Bool.false_and, Bool.or_false, Bool.and_eq_true] at this
            exact this.1
          have hf := of_decide_eq_true hc.2
          obtain ⟨l, hl'⟩ := leafy_of hl
          refine ⟨hl, he.symm, (leaf_rep hl' hx).same s2, hy.keep hf (Sm.same s1).ztr, fun us ru => ?_⟩
          have ez : Ext (fun b => Zof B G σ b ∨ b = a) H2 (upd H2 a (.ext (phK X.prog X.w e0 a us))) := Ext.upd (s2.keep _ _ (s1.keep _ _ upd_same trivial) trivial) trivial (.inr rfl)
          refine R' _ _ (((sm.trans s1).trans s2).updNew na (s2.keep _ _ (s1.keep _ _ upd_same trivial) trivial) trivial) ⟨a, rfl, na, OwnAt.dctK (us := us) (by rw [upd_same, show noBl [(rk.2, rv.2)] = e0 from by rw [← he]; simp [noBl]]; rfl) (RepK.mono ez (RepK.grow (fun b z => .inl ?_) ru))⟩
          rcases z with z | z
          · exact lz b z
          · exact .inl (.inr z)
        · cases e
      · exact False.elim R'
theorem ok_dct1T {S : Stat} {X : Cx} {W : WX} {B : Addr → Prop} {G : Ev} {k v : IE} {kx vx : Expr} {p : Pos} (hu : X.A.units + 64 < cLine) (hk : ∀ B', PE X kx (tE (cfg X O) B' W G (ev S.F k G))) (hv : ∀ B', PE X vx (tE (cfg X O) B' W G (ev S.F v G))) :
    PE X (.Dict [some kx] [vx] p) (fun σ H Q => (∀ r, ev S.F k G = .ok r → tupKey r.2 = true) ∧ tE (cfg X O) B W G (ev S.F (.dct (.cons k .nil) (.cons v .nil)) G) σ H Q) := by
  refine (pe_disp1T (O := O) hu (PE.any hk) (PE.any hv)).weak fun σ H Q ⟨nt, Su, R⟩ => ?_
  intro a na
  have sm := Same.new (o := .ext (phT X.prog X.w a [])) na
  have Sm := Su.more sm na (by rw [upd_same]; intro z; cases z)
  have lz : ∀ b, Zof B G σ b → Zof (fun b => B b ∨ b = a) G σ b := fun b z => z.imp .inl id
  simp only [ev, evs] at R
  refine ⟨fun b => B b ∨ b = a, Sm, ?_⟩
  cases ek : ev S.F k G with
  | no => rw [ek] at R; exact R
  | ex n fs => rw [ek] at R; exact fun cls dd H' s e => R cls dd H' (sm.trans s) (exc_less e lz)
  | ok rk =>
    rw [ek] at R
    refine fun x H1 s1 hx => ⟨fun b => B b ∨ b = a, Sm.same s1, ?_⟩
    cases ev' : ev S.F v G with
    | no => rw [ev'] at R; exact R
    | ex n fs => rw [ev'] at R; exact fun cls dd H' s e => R cls dd H' ((sm.trans s1).trans s) (exc_less e lz)
    | ok rv =>
      rw [ev'] at R
      refine fun y H2 s2 hy => ⟨s2.keep _ _ (s1.keep _ _ upd_same trivial) trivial, Zof (fun b => B b ∨ b = a) G σ, rk.2, rv.2, ?_⟩
      have R' : ResE (cfg X O) B (Zof B G σ) W σ H (match putAll [rk] [rv] [] with | some kvs => .ok (.own, .dct kvs) | none => .no) Q := R
      have ep : putAll [rk] [rv] [] = if (keysOk [] rk.2 && decide (rv.1 ≠ .tmp)) = true then some [(rk.2, rv.2)] else none := rfl
      rw [ep] at R'
      split at R'
      · rename_i kvs e
        split at e
        · rename_i hc
          cases e
          rw [Bool.and_eq_true] at hc
          have hl : tupKey rk.2 = true := nt rk ek
          have hf := of_decide_eq_true hc.2
          obtain ⟨ks, l, hks, _, _⟩ := tupKey_of hl
          have hkr : Rep (cfg X O) (Zof (fun b => B b ∨ b = a) G σ) H1 rk.2 x := by
            obtain ⟨fk, dk⟩ := rk
            dsimp only at hks; subst hks
            obtain ⟨q0, rfl, kq⟩ := RepF.tupv hx
            exact kq
          refine ⟨hl, hkr.same s2, hy.keep hf (Sm.same s1).ztr, fun us ru => ?_⟩
          have ez : Ext (fun b => Zof B G σ b ∨ b = a) H2 (upd H2 a (.ext (phT X.prog X.w a us))) := Ext.upd (s2.keep _ _ (s1.keep _ _ upd_same trivial) trivial) trivial (.inr rfl)
          refine R' _ _ (((sm.trans s1).trans s2).updNew na (s2.keep _ _ (s1.keep _ _ upd_same trivial) trivial) trivial) ⟨a, rfl, na, OwnAt.dctT (us := us) upd_same (RepT.mono ez (RepT.grow (fun b z => .inl ?_) ru))⟩
          rcases z with z | z
          · exact lz b z
          · exact .inl (.inr z)
        · cases e
      · exact False.elim R'
theorem ok_dct1 {S : Stat} {X : Cx} {W : WX} {B : Addr → Prop} {G : Ev} {k v : IE} {kx vx : Expr} {p : Pos} (hu : X.A.units + 64 < cLine) (hk : ∀ B', PE X kx (tE (cfg X O) B' W G (ev S.F k G))) (hv : ∀ B', PE X vx (tE (cfg X O) B' W G (ev S.F v G))) :
    PE X (.Dict [some kx] [vx] p) (tE (cfg X O) B W G (ev S.F (.dct (.cons k .nil) (.cons v .nil)) G)) := by
  by_cases h : ∃ r, ev S.F k G = .ok r ∧ tupKey r.2 = true
  · obtain ⟨r, e, ht⟩ := h
    exact (ok_dct1T hu hk hv).weak fun σ H Q hq => ⟨fun r' e' => by rw [e] at e'; cases e'; exact ht, hq⟩
  · exact (ok_dct1L hk hv).weak fun σ H Q hq => ⟨fun r' e' => by
      cases q : tupKey r'.2 with
      | false => rfl
      | true => exact absurd ⟨r', e', q⟩ h, hq⟩
theorem comp_both {S : Stat} {X : Cx} {W : WX} {sc : Scope} {B : Addr → Prop} {G : Ev} {tg : Tg} {it : II} {t e' : IE} {tg' iter elt : Expr} {ifs : List Expr} {scope : Scope} {pos : Pos} (C : CtxOk S X O W sc) (h1 : blkC S.N sc scope (ownNames S tg) = true) (h2 : okT S (stF scope) tg tg' = true)
    (hI : PI X tg' iter (tI (cfg X O) B W G (evI S.F it G))) (hs : ∀ x, foldedSetIterable iter X.env x = pure x) (h5 : ((ifs.isEmpty && isYes t) || (decide (ifs.length = 1) && isTst t && okE S t (relS scope sc) (headE ifs))) = true)
    (hE : ∀ (s : Shared) (H : Hp) (Cn : Addr) (cl : List (Str × Addr)) (fp : List Addr) (B' : Addr → Prop) (G' : Ev), PE (X.blk s H scope (compEnvC scope cl Cn X.env) fp) elt (tE (cfg X O) B' W0 G' (ev S.F e' G')))
    (hTst : isTst t = true → okE S t (relS scope sc) (headE ifs) = true → ∀ (s : Shared) (H : Hp) (Cn : Addr) (cl : List (Str × Addr)) (fp : List Addr) (B' : Addr → Prop) (G' : Ev), PT (X.blk s H scope (compEnvC scope cl Cn X.env) fp) (headE ifs) (tT (cfg X O) B' W0 G' (asB (ev S.F t G')))) :
    PE X (.ListComp elt [⟨tg', iter, ifs, 0⟩] scope pos) (tE (cfg X O) B W G (ev S.F (.comp tg it t e') G)) ∧
      ∀ (i : Nat) (y : Str) (py spos : Pos), X.N[i]? = some y → X.env.scope.names.lookup y = some .local → swapsWith (.ListComp elt [⟨tg', iter, ifs, 0⟩] scope pos) (some (.Name y py)) spos.line X.env = pure true →
        PS X (.Assign [.Name y py] (.ListComp elt [⟨tg', iter, ifs, 0⟩] scope pos) spos) (tAsg (tE (cfg X O) B W G (ev S.F (.comp tg it t e') G)) (gName i)) := by
  rw [Bool.or_eq_true] at h5
  rcases h5 with h5 | h5
  · rw [Bool.and_eq_true] at h5
    have e1 : ifs = [] := by simpa using h5.1
    subst e1
    have e2 : t = .k (.bl true) := by
      have := h5.2
      unfold isYes at this
      split at this
      · rfl
      · cases this
    subst e2
    refine ok_comp C.toCtxB h1 h2 hI hs (fun s H Cn cl fp => pts_nil) (fun B' G' b σ H Q e Su q => ?_) hE
    cases e
    exact q H (Same.refl H)
  · rw [Bool.and_eq_true, Bool.and_eq_true] at h5
    obtain ⟨⟨h6, h7⟩, h8⟩ := h5
    have h6 := of_decide_eq_true h6
    match ifs, h6, h8, hTst with
    | [c], _, h8, hTst =>
      refine ok_comp (tt := fun σ H Q => ∃ g : (Addr → Prop) × Ev, tT (cfg X O) g.1 W0 g.2 (asB (ev S.F t g.2)) σ H Q) C.toCtxB h1 h2 hI hs (fun s H Cn cl fp => pts_one (PT.any (α := (Addr → Prop) × Ev) fun g => hTst h7 h8 s H Cn cl fp g.1 g.2)) (fun B' G' b σ H Q e Su q => ?_) hE
      refine ⟨(B', G'), Su, ?_⟩
      rw [e]
      exact q
theorem okE_lset {S : Stat} {x : IE} {sc : Scope} {e : Expr} (h : okE S (.lset x) sc e = true) : ∃ y p z p2 b q pos, e = .Call (.Name y p) [.Call (.Name z p2) [b] [] q] [] pos ∧ (okB S sc "len" y && okB S sc "set" z && okE S x sc b) = true := by
  cases e <;> first | exact absurd h Bool.false_ne_true | skip
  rename_i fn es kws pos
  cases fn <;> first | exact absurd h Bool.false_ne_true | skip
  rename_i y p
  cases es with
  | nil => exact absurd h Bool.false_ne_true
  | cons a es =>
    cases es with
    | cons _ _ => exact absurd h Bool.false_ne_true
    | nil =>
      cases kws with
      | cons _ _ => exact absurd h Bool.false_ne_true
      | nil =>
        have h : (match callN a with | some (z, [b]) => okB S sc "len" y && okB S sc "set" z && okE S x sc b | _ => false) = true := h
        split at h
        · rename_i z b e2
          obtain ⟨p2, q, rfl⟩ := callN_of e2
          exact ⟨y, p, z, p2, b, q, pos, rfl, h⟩
        · cases h
mutual
theorem ev_ok (S : Stat) : ∀ (x : IE) (X : Cx) (W : WX) (sc : Scope) (B : Addr → Prop) (G : Ev) (e : Expr), CtxOk S X O W sc → okE S x sc e = true → PE X e (tE (cfg X O) B W G (ev S.F x G)) ∧ (isTst x = true → PT X e (tT (cfg X O) B W G (asB (ev S.F x G))))
  | .v i, X, W, sc, B, G, e, C, h => by
    cases e <;> first | (simp [okE] at h; done) | skip
    have k := ok_v C.toCtxB (O := O) (B := B) (G := G) (p := ‹Pos›) (by simpa only [okE] using h)
    exact ⟨k, fun _ => test_of k fun _ => rfl⟩
  | .pk i, X, W, sc, B, G, e, C, h => by
    cases e <;> first | (simp [okE] at h; done) | skip
    exact ⟨ok_pk C.toCtxB (by simpa only [okE] using h), fun z => by cases z⟩
  | .pv i, X, W, sc, B, G, e, C, h => by
    cases e <;> first | (simp [okE] at h; done) | skip
    exact ⟨ok_pv C.toCtxB (by simpa only [okE] using h), fun z => by cases z⟩
  | .k d, X, W, sc, B, G, e, C, h => by
    cases e <;> first | (simp [okE] at h; done) | skip
    exact ⟨ok_k (by simpa only [okE] using h), fun z => by cases z⟩
  | .gl n, X, W, sc, B, G, e, C, h => by
    cases e <;> first | (simp [okE] at h; done) | skip
    have k := ok_gl C.toCtxB (O := O) (B := B) (G := G) (p := ‹Pos›) (by simpa only [okE] using h)
    exact ⟨k, fun _ => test_of k fun _ => rfl⟩
  | .b op x y, X, W, sc, B, G, e, C, h => by
    cases e <;> first | (simp [okE] at h; done) | skip
    simp only [okE, Bool.and_eq_true] at h
    exact ⟨ok_b h.1.1 (ev_ok S x X W sc B G _ C h.1.2).1 (ev_ok S y X W sc B G _ C h.2).1, fun z => by cases z⟩
  | .neg x, X, W, sc, B, G, e, C, h => by
    cases e <;> first | (simp [okE] at h; done) | skip
    rename_i op _ _
    cases op <;> first | (simp [okE] at h; done) | skip
    simp only [okE] at h
    exact ⟨ok_neg (ev_ok S x X W sc B G _ C h).1, fun z => by cases z⟩
  | .cmp op x y, X, W, sc, B, G, e, C, h => by
    cases e <;> first | (simp [okE] at h; done) | skip
    rename_i l ops cs p
    cases ops with
    | nil => simp [okE] at h
    | cons o os =>
      cases os with
      | cons _ _ => simp [okE] at h
      | nil =>
        cases cs with
        | nil => simp [okE] at h
        | cons r rs =>
          cases rs with
          | cons _ _ => simp [okE] at h
          | nil =>
            simp only [okE, Bool.and_eq_true] at h
            have hl := (ev_ok S x X W sc B G _ C h.1.2).1
            have hr := (ev_ok S y X W sc B G _ C h.2).1
            have hm := notSet h.2 o
            exact ⟨ok_cmp (by have := C.room.un; omega) h.1.1 hm hl hr, fun _ => okT_cmp (by have := C.room.un; omega) h.1.1 hm hl hr⟩
  | .and_ x y, X, W, sc, B, G, e, C, h => by
    cases e <;> first | (simp [okE] at h; done) | skip
    rename_i op es p
    cases op <;> first | (simp [okE] at h; done) | skip
    match es, h with
    | [], h => simp [okE] at h
    | [_], h => simp [okE] at h
    | [a, b], h =>
      simp only [okE, Bool.and_eq_true, List.isEmpty_nil, if_true] at h
      obtain ⟨h1, h2⟩ := ev_ok S x X W sc B G _ C h.1
      obtain ⟨h3, h4⟩ := ev_ok S y X W sc B G _ C h.2
      refine ⟨ok_and h1 (pe_one h3), fun z => ?_⟩
      simp only [isTst, Bool.and_eq_true] at z
      exact okT_and (h2 z.1) (pw_and1 (h4 z.2))
    | a :: b :: c :: rest, h =>
      simp only [okE, Bool.and_eq_true, List.isEmpty_cons, Bool.false_eq_true, if_false] at h
      obtain ⟨h1, h2⟩ := ev_ok S x X W sc B G _ C h.1
      obtain ⟨h3, h4⟩ := ev_ok S y X W sc B G _ C h.2
      refine ⟨ok_and h1 h3, fun z => ?_⟩
      simp only [isTst, Bool.and_eq_true] at z
      exact okT_and (h2 z.1) (PW.of (h4 z.2))
  | .or_ x y, X, W, sc, B, G, e, C, h => by
    cases e <;> first | (simp [okE] at h; done) | skip
    rename_i op es p
    cases op <;> first | (simp [okE] at h; done) | skip
    match es, h with
    | [], h => simp [okE] at h
    | [_], h => simp [okE] at h
    | [a, b], h =>
      simp only [okE, Bool.and_eq_true, List.isEmpty_nil, if_true] at h
      obtain ⟨h1, h2⟩ := ev_ok S x X W sc B G _ C h.1
      obtain ⟨h3, h4⟩ := ev_ok S y X W sc B G _ C h.2
      refine ⟨ok_or h1 (pe_one h3), fun z => ?_⟩
      simp only [isTst, Bool.and_eq_true] at z
      exact okT_or (h2 z.1) (pw_or1 (h4 z.2))
    | a :: b :: c :: rest, h =>
      simp only [okE, Bool.and_eq_true, List.isEmpty_cons, Bool.false_eq_true, if_false] at h
      obtain ⟨h1, h2⟩ := ev_ok S x X W sc B G _ C h.1
      obtain ⟨h3, h4⟩ := ev_ok S y X W sc B G _ C h.2
      refine ⟨ok_or h1 h3, fun z => ?_⟩
      simp only [isTst, Bool.and_eq_true] at z
      exact okT_or (h2 z.1) (PW.of (h4 z.2))
  | .not_ x, X, W, sc, B, G, e, C, h => by
    cases e <;> first | (simp [okE] at h; done) | skip
    rename_i op _ _
    cases op <;> first | (simp [okE] at h; done) | skip
    simp only [okE] at h
    obtain ⟨h1, h2⟩ := ev_ok S x X W sc B G _ C h
    exact ⟨ok_not h1, fun z => okT_not (h2 (by simpa only [isTst] using z))⟩
  | .ife t x y, X, W, sc, B, G, e, C, h => by
    cases e <;> first | (simp [okE] at h; done) | skip
    simp only [okE, Bool.and_eq_true] at h
    exact ⟨ok_ife ((ev_ok S t X W sc B G _ C h.1.1.2).2 h.1.1.1) (ev_ok S x X W sc B G _ C h.1.2).1 (ev_ok S y X W sc B G _ C h.2).1, fun z => by cases z⟩
  | .tup as, X, W, sc, B, G, e, C, h => by
    cases e <;> first | (simp [okE] at h; done) | skip
    simp only [okE] at h
    exact ⟨ok_tup (evs_ok S as X W sc B G _ C h), fun z => by cases z⟩
  | .lst as, X, W, sc, B, G, e, C, h => by
    cases e <;> first | (simp [okE] at h; done) | skip
    simp only [okE] at h
    exact ⟨ok_lst (evs_ok S as X W sc B G _ C h), fun z => by cases z⟩
  | .dct ks vs, X, W, sc, B, G, e, C, h => by
    cases e <;> first | (cases ks <;> cases vs <;> simp [okE] at h; done) | skip
    rename_i keys vals p
    cases ks with
    | nil =>
      cases vs <;> cases keys <;> cases vals <;> first | exact absurd h Bool.false_ne_true | skip
      exact ⟨ok_dnew, fun z => by cases z⟩
    | cons k ks =>
      cases ks with
      | cons _ _ => cases vs <;> exact absurd h Bool.false_ne_true
      | nil =>
        cases vs with
        | nil => exact absurd h Bool.false_ne_true
        | cons v vs =>
          cases vs with
          | cons _ _ => exact absurd h Bool.false_ne_true
          | nil =>
            match keys, vals, h with
            | [], _, h => exact absurd h Bool.false_ne_true
            | [none], _, h => exact absurd h Bool.false_ne_true
            | [some _], [], h => exact absurd h Bool.false_ne_true
            | [some kx], [vx], h =>
              have h : (okE S k sc kx && okE S v sc vx) = true := h
              rw [Bool.and_eq_true] at h
              exact ⟨ok_dct1 C.room.units (fun B' => (ev_ok S k X W sc B' G _ C h.1).1) (fun B' => (ev_ok S v X W sc B' G _ C h.2).1), fun z => by cases z⟩
            | [some _], _ :: _ :: _, h => exact absurd h Bool.false_ne_true
            | none :: _ :: _, _, h => exact absurd h Bool.false_ne_true
            | some _ :: _ :: _, _, h => exact absurd h Bool.false_ne_true
  | .ix x i, X, W, sc, B, G, e, C, h => by
    cases e <;> first | (simp [okE] at h; done) | skip
    simp only [okE, Bool.and_eq_true] at h
    have k := ok_ix (p := ‹Pos›) C.room.units (okE_plain h.2) (ev_ok S x X W sc B G _ C h.1).1 (ev_ok S i X W sc B G _ C h.2).1
    exact ⟨k, fun _ => test_of k fun _ => rfl⟩
  | .sl x lo hi, X, W, sc, B, G, e, C, h => by
    cases e <;> first | (simp [okE] at h; done) | skip
    rename_i o s p
    cases s <;> first | (simp [okE] at h; done) | skip
    rename_i l u st p2
    cases st with
    | some _ => simp [okE] at h
    | none =>
      have h : (okE S x sc o && (if l.isNone = true then isOut lo else !isOut lo && okE S lo sc (l.getD (headE []))) && (if u.isNone = true then isOut hi else !isOut hi && okE S hi sc (u.getD (headE [])))) = true := h
      rw [Bool.and_eq_true, Bool.and_eq_true] at h
      refine ⟨ok_sl (ev_ok S x X W sc B G _ C h.1.1).1 ?_ ?_, fun z => by cases z⟩
      · have h := h.1.2
        cases l with
        | none =>
          have h : isOut lo = true := h
          cases lo <;> first | exact ok_part0 | cases h
        | some l =>
          have h : (!isOut lo && okE S lo sc l) = true := h
          rw [Bool.and_eq_true] at h
          exact ok_partE (ev_ok S lo X W sc B G _ C h.2).1 (by simpa using h.1)
      · have h := h.2
        cases u with
        | none =>
          have h : isOut hi = true := h
          cases hi <;> first | exact ok_part0 | cases h
        | some l =>
          have h : (!isOut hi && okE S hi sc l) = true := h
          rw [Bool.and_eq_true] at h
          exact ok_partE (ev_ok S hi X W sc B G _ C h.2).1 (by simpa using h.1)
  | .rv x, X, W, sc, B, G, e, C, h => by
    cases e <;> first | exact absurd h Bool.false_ne_true | skip
    rename_i o sx p
    cases sx <;> first | exact absurd h Bool.false_ne_true | skip
    rename_i l u st p2
    cases l with
    | some _ => cases st <;> exact absurd h Bool.false_ne_true
    | none =>
      cases u with
      | some _ => exact absurd h Bool.false_ne_true
      | none =>
        cases st with
        | none => exact absurd h Bool.false_ne_true
        | some st =>
          cases st <;> first | exact absurd h Bool.false_ne_true | skip
          rename_i op oe p3
          cases op <;> first | exact absurd h Bool.false_ne_true | skip
          cases oe <;> first | exact absurd h Bool.false_ne_true | skip
          rename_i cv kk p4
          cases cv <;> first | exact absurd h Bool.false_ne_true | skip
          rename_i j
          have h : (decide (j = 1) && okE S x sc o) = true := h
          rw [Bool.and_eq_true] at h
          have hj : j = 1 := of_decide_eq_true h.1
          subst hj
          exact ⟨ok_rv (ev_ok S x X W sc B G _ C h.2).1, fun z => by cases z⟩
  | .lset x, X, W, sc, B, G, e, C, h => by
    obtain ⟨y, p, z, p2, b, q, pos, rfl, h'⟩ := okE_lset h
    rw [Bool.and_eq_true, Bool.and_eq_true] at h'
    exact ⟨ok_lset C.toCtxB h'.1.1 h'.1.2 (okE_plain h'.2) (ev_ok S x X W sc B G _ C h'.2).1, fun z => by cases z⟩
  | .out, X, W, sc, B, G, e, C, h => by
    cases e <;> simp [okE] at h
  | .bi f as, X, W, sc, B, G, e, C, h => by
    cases e <;> first | (simp [okE] at h; done) | skip
    rename_i fn es kws pos
    cases fn <;> first | (simp [okE] at h; done) | skip
    rename_i x p
    cases kws with
    | cons _ _ => simp [okE] at h
    | nil =>
      have h : (okB S sc (bfName f) x && (if isTy f = true then okA S as sc (es.take 1) && okTy2 S sc f es else okA S as sc es && !es.isEmpty)) = true := h
      rw [Bool.and_eq_true] at h
      obtain ⟨hb, h⟩ := h
      have key : PE X (.Call (.Name x p) es [] pos) (tE (cfg X O) B W G (ev S.F (.bi f as) G)) := by
        split at h
        · rename_i hf
          rw [Bool.and_eq_true] at h
          obtain ⟨h1, h2⟩ := h
          unfold okTy2 at h2
          split at h2
          · rename_i a y p2
            cases as with
            | nil => simp [okA] at h1
            | cons x as =>
              simp only [List.take_succ_cons, List.take_zero, okA, Bool.and_eq_true] at h1
              cases as with
              | cons _ _ => simp [okA] at h1
              | nil => exact ok_is C.toCtxB hb hf h2 (okE_plain h1.1) (ev_ok S x X W sc B G _ C h1.1).1
          · cases h2
        · rename_i hf
          simp only [Bool.and_eq_true] at h
          exact ok_bi C.toCtxB hb (by simpa using hf) (by simpa using h.2) h.1 (evs_ok S as X W sc B G _ C h.1)
      exact ⟨key, fun _ => test_of key fun _ => rfl⟩
  | .lix o x, X, W, sc, B, G, e, C, h => by
    cases e <;> first | (simp [okE] at h; done) | skip
    rename_i fn es kws cpos
    cases fn <;> first | (simp [okE] at h; done) | skip
    rename_i b y apos
    cases kws with
    | cons _ _ => simp [okE] at h
    | nil =>
      cases es with
      | nil => simp [okE] at h
      | cons a es =>
        cases es with
        | cons _ _ => simp [okE] at h
        | nil =>
          simp only [okE, Bool.and_eq_true, decide_eq_true_eq] at h
          obtain ⟨⟨⟨⟨rfl, h2⟩, h3⟩, h4⟩, h6⟩ := h
          exact ⟨ok_lix (by have := C.room.un; omega) h2 (okE_plain h4) (attrBase h6) (ev_ok S o X W sc B G _ C h3).1 (ev_ok S x X W sc B G _ C h4).1, fun z => by cases z⟩
  | .me m o as, X, W, sc, B, G, e, C, h => by
    cases e <;> first | (simp [okE] at h; done) | skip
    rename_i fn es kws cpos
    cases fn <;> first | (simp [okE] at h; done) | skip
    rename_i b y apos
    cases kws with
    | cons _ _ => simp [okE] at h
    | nil =>
      simp only [okE, Bool.and_eq_true, decide_eq_true_eq] at h
      obtain ⟨⟨⟨⟨⟨h1, h2⟩, h3⟩, h4⟩, h5⟩, h6⟩ := h
      cases as with
      | nil =>
        cases es with
        | nil => simp at h5
        | cons _ _ => simp [okA] at h4
      | cons x as =>
        cases es with
        | nil => simp at h5
        | cons a es =>
          cases es with
          | cons _ _ => simp at h5
          | nil =>
            simp only [okA, Bool.and_eq_true] at h4
            cases as with
            | cons _ _ => simp [okA] at h4
            | nil => exact ⟨ok_me h1 h2 (okE_plain h4.1) (attrBase h6) (ev_ok S o X W sc B G _ C h3).1 (ev_ok S x X W sc B G _ C h4.1).1, fun z => by cases z⟩
  | .call n as, X, W, sc, B, G, e, C, h => by
    cases e <;> first | (simp [okE] at h; done) | skip
    rename_i fn es kws pos
    cases fn <;> first | (simp [okE] at h; done) | skip
    rename_i x p
    cases kws with
    | cons _ _ => simp [okE] at h
    | nil =>
      simp only [okE] at h
      have h' : ((decide (S.nm n = x) && S.us.contains n && isGl sc x && plainN x) && okA S as sc es && !es.isEmpty) = true := h
      rw [Bool.and_eq_true, Bool.and_eq_true] at h'
      have key := ok_call (pos := pos) (p := p) C.toCtxB h'.1.1 (by simpa using h'.2) h'.1.2 (evs_ok S as X W sc B G _ C h'.1.2)
      exact ⟨key, fun _ => test_of key fun _ => rfl⟩
  | .comp tg it t e', X, W, sc, B, G, e, C, h => by
    cases e <;> first | (simp [okE] at h; done) | skip
    rename_i elt gens scope pos
    match gens, h with
    | [], h => simp [okE] at h
    | _ :: _ :: _, h => simp [okE] at h
    | [⟨tg', iter, ifs, k⟩], h =>
        have h : (decide (k = 0) && blkC S.N sc scope (ownNames S tg) && okT S (stF scope) tg tg' && okI S it sc tg' iter && okE S e' (relS scope sc) elt &&
          ((ifs.isEmpty && isYes t) || (decide (ifs.length = 1) && isTst t && okE S t (relS scope sc) (headE ifs)))) = true := h
        simp only [Bool.and_eq_true, decide_eq_true_eq] at h
        obtain ⟨⟨⟨⟨⟨h0, h1⟩, h2⟩, h3⟩, h4⟩, h5⟩ := h
        subst h0
        have hk : scope.kind = .function := (blkOk_by h1).kind
        obtain ⟨hI, hs⟩ := evI_ok S it X W sc B G tg' iter C h3
        exact ⟨(comp_both C h1 h2 hI (hs _) h5 (fun s H Cn cl fp B' G' => (ev_ok S e' (X.blk s H scope (compEnvC scope cl Cn X.env) fp) W0 (relS scope sc) B' G' elt (blk_okX C scope hk s H Cn cl fp) h4).1)
          (fun h6 h7 s H Cn cl fp B' G' => (ev_ok S t (X.blk s H scope (compEnvC scope cl Cn X.env) fp) W0 (relS scope sc) B' G' _ (blk_okX C scope hk s H Cn cl fp) h7).2 h6)).1, fun z => by cases z⟩
  | .xt t as, X, W, sc, B, G, e, C, h => by
    simp only [okE] at h
    rw [Bool.and_eq_true, Bool.and_eq_true] at h
    obtain ⟨⟨h1, h2⟩, h3⟩ := h
    split at h3
    · rename_i es he
      have key := (C.xt t h1).use he X O W sc B G e es as rfl C.toCtxB he (evs_parts S as X W sc B G es C h3)
      refine ⟨key, fun _ => test_of key ?_⟩
      cases e <;> first | exact fun _ => rfl | exact absurd h2 Bool.false_ne_true
    · cases h3
theorem evs_parts (S : Stat) : ∀ (as : IEs) (X : Cx) (W : WX) (sc : Scope) (B : Addr → Prop) (G : Ev) (es : List Expr), CtxOk S X O W sc → okA S as sc es = true → Parts S X O W sc B G es as
  | .nil, X, W, sc, B, G, es, C, h => by
    cases es with
    | nil => exact .nil
    | cons _ _ => simp [okA] at h
  | .cons x as, X, W, sc, B, G, es, C, h => by
    cases es with
    | nil => simp [okA] at h
    | cons e es =>
      simp only [okA, Bool.and_eq_true] at h
      exact .cons h.1 (ev_ok S x X W sc B G _ C h.1).1 (evs_parts S as X W sc B G es C h.2)
theorem evs_ok (S : Stat) : ∀ (as : IEs) (X : Cx) (W : WX) (sc : Scope) (B : Addr → Prop) (G : Ev) (es : List Expr), CtxOk S X O W sc → okA S as sc es = true → PA X es (tA (cfg X O) B W G (evs S.F as G))
  | .nil, X, W, sc, B, G, es, C, h => by
    cases es with
    | nil => exact okA_nil
    | cons _ _ => simp [okA] at h
  | .cons x as, X, W, sc, B, G, es, C, h => by
    cases es with
    | nil => simp [okA] at h
    | cons e es =>
      simp only [okA, Bool.and_eq_true] at h
      exact okA_cons (okE_plain h.1) (ev_ok S x X W sc B G _ C h.1).1 (evs_ok S as X W sc B G _ C h.2)
theorem evI_ok (S : Stat) : ∀ (it : II) (X : Cx) (W : WX) (sc : Scope) (B : Addr → Prop) (G : Ev) (tg e : Expr), CtxOk S X O W sc → okI S it sc tg e = true → PI X tg e (tI (cfg X O) B W G (evI S.F it G)) ∧ ∀ env x, foldedSetIterable e env x = pure x
  | .ex x, X, W, sc, B, G, tg, e, C, h => by
    have h : okE S x sc e = true := by simpa only [okI] using h
    exact ⟨oki_ex (ev_ok S x X W sc B G _ C h).1, fun env v => foldedIt (okE_plain h) (okE_notSet h) v⟩
  | .rng1 x, X, W, sc, B, G, tg, e, C, h => by
    unfold okI at h
    split at h
    · rename_i y a hc
      obtain ⟨p, pos, rfl⟩ := callN_of hc
      rw [Bool.and_eq_true] at h
      exact ⟨oki_rng1 C.toCtxB h.1 (okE_plain h.2) (ev_ok S x X W sc B G _ C h.2).1, fun _ _ => rfl⟩
    · cases h
  | .rng2 x z, X, W, sc, B, G, tg, e, C, h => by
    unfold okI at h
    split at h
    · rename_i y a b hc
      obtain ⟨p, pos, rfl⟩ := callN_of hc
      rw [Bool.and_eq_true, Bool.and_eq_true] at h
      exact ⟨oki_rng2 C.toCtxB h.1.1 (okE_plain h.1.2) (okE_plain h.2) (ev_ok S x X W sc B G _ C h.1.2).1 (ev_ok S z X W sc B G _ C h.2).1, fun _ _ => rfl⟩
    · cases h
  | .zip2 x z, X, W, sc, B, G, tg, e, C, h => by
    unfold okI at h
    split at h
    · rename_i y a b hc
      obtain ⟨p, pos, rfl⟩ := callN_of hc
      rw [Bool.and_eq_true, Bool.and_eq_true, Bool.and_eq_true] at h
      obtain ⟨es, k, p2, rfl⟩ := isTup_of h.1.1.1
      exact ⟨oki_zip C.toCtxB h.1.1.2 (okE_plain h.1.2) (okE_plain h.2) (ev_ok S x X W sc B G _ C h.1.2).1 (ev_ok S z X W sc B G _ C h.2).1, fun _ _ => rfl⟩
    · cases h
  | .rev x, X, W, sc, B, G, tg, e, C, h => by
    unfold okI at h
    split at h
    · rename_i y a hc
      obtain ⟨p, pos, rfl⟩ := callN_of hc
      rw [Bool.and_eq_true] at h
      exact ⟨oki_rev C.toCtxB h.1 (okE_plain h.2) (ev_ok S x X W sc B G _ C h.2).1, fun _ _ => rfl⟩
    · cases h
  | .xi w as, X, W, sc, B, G, tg, e, C, h => by
    unfold okI at h
    rw [Bool.and_eq_true] at h
    obtain ⟨h1, h2⟩ := h
    split at h2
    · rename_i es he
      exact (show XwOk S (cfg X O) w from C.xt (.wk w) h1) X O W sc B G tg e es as rfl C.toCtxB he (evs_parts S as X W sc B G es C h2)
    · cases h2
end
/-- name = e -/
theorem set_ok (S : Stat) (x : IE) {X : Cx} {W : WX} {sc : Scope} {B : Addr → Prop} {G : Ev} {e : Expr} (C : CtxOk S X O W sc) (h : okE S x sc e = true) {i : Nat} {y : Str} {py spos : Pos} (hi : X.N[i]? = some y) (hy0 : Loc X.env.scope y) (hf : X.fn y = true ∨ X.env.scope.names.lookup y = some .local) :
    PS X (.Assign [.Name y py] e spos) (tAsg (tE (cfg X O) B W G (ev S.F x G)) (gName i)) := by
  have he := (ev_ok S x X W sc B G e C h).1
  by_cases hc : ∃ tg it t e', x = .comp tg it t e'
  · obtain ⟨tg, it, t, e', rfl⟩ := hc
    cases e <;> first | (simp [okE] at h; done) | skip
    rename_i elt gens scope pos
    match gens, h, he with
    | [], h, he => simp [okE] at h
    | _ :: _ :: _, h, he => simp [okE] at h
    | [⟨tg', iter, ifs, k⟩], h, he =>
      have h : (decide (k = 0) && blkC S.N sc scope (ownNames S tg) && okT S (stF scope) tg tg' && okI S it sc tg' iter && okE S e' (relS scope sc) elt &&
        ((ifs.isEmpty && isYes t) || (decide (ifs.length = 1) && isTst t && okE S t (relS scope sc) (headE ifs)))) = true := h
      simp only [Bool.and_eq_true, decide_eq_true_eq] at h
      obtain ⟨⟨⟨⟨⟨h0, h1⟩, h2⟩, h3⟩, h4⟩, h5⟩ := h
      subst h0
      have hk : scope.kind = .function := (blkOk_by h1).kind
      have hkd : X.env.scope.kind = .function := by rw [C.sc]; exact C.kd
      have hb : X.env.blockKind = .function := by unfold Env.blockKind; rw [hkd]; rfl
      rcases hy0 with hy | hy
      rotate_left
      · have ky : X.env.kindOf y = some .cell := hy
        refine ps_set C.nd hi (.inr hy) he ?_ hf
        unfold swapsWith
        simp only [hb, ky, Expr.pos]
        rfl
      have ky : X.env.kindOf y = some .local := hy
      by_cases hsw : ((py.line == pos.line) && !(scope.names.any fun (n, k) => n == y && (k == .local || k == .cell))) = true
      · obtain ⟨hI, hs⟩ := evI_ok (O := O) S it X W sc B G tg' iter C h3
        refine (comp_both C h1 h2 hI (hs _) h5 (fun s H Cn cl fp B' G' => (ev_ok S e' (X.blk s H scope (compEnvC scope cl Cn X.env) fp) W0 (relS scope sc) B' G' elt (blk_okX C scope hk s H Cn cl fp) h4).1)
          (fun h6 h7 s H Cn cl fp B' G' => (ev_ok S t (X.blk s H scope (compEnvC scope cl Cn X.env) fp) W0 (relS scope sc) B' G' _ (blk_okX C scope hk s H Cn cl fp) h7).2 h6)).2 i y py spos hi hy ?_
        simp only [Bool.and_eq_true, Bool.not_eq_true'] at hsw
        exact sw_true hkd hy hsw.1 hsw.2
      · refine ps_set C.nd hi (.inl hy) he ?_ (.inr hy)
        have hsw : ((py.line == pos.line) && !(scope.names.any fun (n, k) => n == y && (k == .local || k == .cell))) = false := (Bool.not_eq_true _).mp hsw
        unfold swapsWith
        simp only [hb, ky, Expr.pos]
        show pure (_ && _ && (py.line == pos.line) && !(scope.names.any fun (n, k) => n == y && (k == .local || k == .cell))) = pure false
        rw [Bool.and_assoc, hsw, Bool.and_false]
  · refine ps_set C.nd hi hy0 he ?_ hf
    cases e <;> first | rfl | skip
    all_goals (cases x <;> first | (simp [okE, isXt] at h; done) | exact absurd ⟨_, _, _, _, rfl⟩ hc)
end
end RA
/-! RAX: errors that are caught and kept as values. -/
namespace RA
open PySem PySem.Spec PyProof.Rows L2
variable [Tabs] [LentT]
/-- an error stands at a -/
def errAt (a : Addr) (cls : Value) (d : Option Addr) : Heap → Prop := fun h => ∃ oe vs, h.get? a = some oe ∧ Zc cls d oe ∧ oe.data = .fields vs
/-- own kinds beside errors -/
structure Op2 where
  op : (Addr → Prop) → Hp → Nat → List V → Addr → Prop
  op_mono : ∀ {B : Addr → Prop} {H H' : Hp} {n : Nat} {vs : List V} {a : Addr}, op B H n vs a → (∀ b o, ¬ B b → H b = some o → NoT o → H' b = some o) → (∀ b o u, H b = some (.frz o u) → H' b = some (.frz o u)) → op B H' n vs a
  op_grow : ∀ {B B' : Addr → Prop} {H : Hp} {n : Nat} {vs : List V} {a : Addr}, op B H n vs a → (∀ b, B' b → B b ∨ H b = none) → op B' H n vs a
  op_cel : ∀ {B : Addr → Prop} {H H' : Hp} {n : Nat} {vs : List V} {a : Addr}, n < 1000 → op B H n vs a → (∀ b o, H b = some o → NoT o → NoCel b o → H' b = some o) → op B H' n vs a
  /-- only these numbers are its own -/
  mine : Nat → Bool
  op_mine : ∀ {B : Addr → Prop} {H : Hp} {n : Nat} {vs : List V} {a : Addr}, op B H n vs a → mine n = true
def op20 : Op2 := { op := fun _ _ _ _ _ => False, op_mono := fun h _ _ => h, op_grow := fun h _ => h, op_cel := fun _ h _ => h, mine := fun _ => false, op_mine := fun h => h.elim }
def errOp (ecls : Nat → Addr) (enames : Nat → List Str) (B : Addr → Prop) (H : Hp) (n : Nat) (vs : List V) (a : Addr) : Prop :=
  ¬ B a ∧ ∃ d, H a = some (.ext (errAt a (.ref (ecls n)) d)) ∧ ((vs = [] ∧ d = none) ∨ ∃ dd, d = some dd ∧ ¬ B dd ∧ H dd = some (.xd ((enames n).zip vs)))
def O1 (ecls : Nat → Addr) (enames : Nat → List Str) (E : Op2) : OpT where
  op B H n vs a := if E.mine n = true then E.op B H n vs a else errOp ecls enames B H n vs a
  op_mono := fun {B H H' n vs a} h e ef => by
    split at h
    · rename_i q; rw [if_pos q]; exact E.op_mono h e ef
    · rename_i q
      rw [if_neg q]
      obtain ⟨hb, d, h1, h2⟩ := h
      exact ⟨hb, d, e _ _ hb h1 trivial, h2.imp id fun ⟨dd, e1, e2, e3⟩ => ⟨dd, e1, e2, e _ _ e2 e3 trivial⟩⟩
  op_grow := fun {B B' H n vs a} h g => by
    split at h
    · rename_i q; rw [if_pos q]; exact E.op_grow h g
    · rename_i q
      rw [if_neg q]
      obtain ⟨hb, d, h1, h2⟩ := h
      refine ⟨fun z => (g a z).elim hb fun z => (by rw [h1] at z; cases z), d, h1, h2.imp id fun ⟨dd, e1, e2, e3⟩ => ⟨dd, e1, fun z => (g dd z).elim e2 fun z => (by rw [e3] at z; cases z), e3⟩⟩
  op_cel := fun {B H H' n vs a} hn h e => by
    split at h
    · rename_i q; rw [if_pos q]; exact E.op_cel hn h e
    · rename_i q
      rw [if_neg q]
      obtain ⟨hb, d, h1, h2⟩ := h
      exact ⟨hb, d, e _ _ h1 trivial (fun oc v z => nomatch z), h2.imp id fun ⟨dd, e1, e2, e3⟩ => ⟨dd, e1, e2, e _ _ e3 trivial (fun oc v z => nomatch z)⟩⟩
  ecls := ecls
  enames := enames
section
variable {X : Cx} {pins : List (Addr × Obj)} {σ : L2.St} {H : Hp} {s : Shared}
theorem errAt_stay {a : Addr} {cls : Value} {d : Option Addr} {h1 h2 : Heap} (z : errAt a cls d h1) (k : ∀ o, h1.get? a = some o → h2.get? a = some o) : errAt a cls d h2 := by
  obtain ⟨oe, vs, e, r⟩ := z
  exact ⟨oe, vs, k _ e, r⟩
/-- what was pinned is told in the heap from now on -/
theorem adopt {a : Addr} {oe : Obj} {cls : Value} {d : Option Addr} {vs : Array Value} (I : Inv X ((a, oe) :: pins) σ H s) (hz : Zc cls d oe) (hd : oe.data = .fields vs) (hs0 : X.s_0.heap.get? a = none) (hn : ∀ p ∈ X.pn ++ pins, p.1 ≠ a) (hc : ∀ x c, X.env.cells.lookup x = some c → a ≠ c) :
    Inv X pins σ (upd H a (.ext (errAt a cls d))) s := by
  obtain ⟨p1, p2, p3, p4, p5⟩ := I.pin (a, oe) (List.mem_append_right _ List.mem_cons_self)
  have ne0 : ∀ b o, X.s_0.heap.get? b = some o → b ≠ a := fun b o e z => by rw [z, hs0] at e; cases e
  have old : ∀ b, b ≠ a → upd H a (.ext (errAt a cls d)) b = H b := fun b z => upd_ne z
  have here : errAt a cls d s.heap := ⟨oe, vs, p1, hz, hd⟩
  refine ⟨I.ok, I.os, I.bare, ⟨I.base.keep, I.base.slot, fun b o e n hx => ?_, I.base.there, fun b xs e => ?_, fun b o u e => ?_, fun b ps e => ?_⟩, I.loc, I.cell, ?_, fun x c e => ?_, fun p hp => ?_, fun b o e => ?_, I.len⟩
  · rw [old b (ne0 b o e)]; exact I.base.free b o e n hx
  · rw [old b fun z => by have := I.base.tups b xs e; rw [z, p2] at this; cases this]; exact I.base.tups b xs e
  · rw [old b fun z => by have := I.base.frzs b o u e; rw [z, p2] at this; cases this]; exact I.base.frzs b o u e
  · obtain ⟨m, q⟩ := I.base.tbls b ps e
    exact ⟨m, by rw [old b fun z => by rw [z, p2] at q; cases q]; exact q⟩
  · rw [old _ fun z => p3 z.symm]; exact I.free
  · rw [old _ fun z => hc x c e z.symm]; exact I.freeC x c e
  · obtain ⟨q1, q2, q3, q4, q5⟩ := I.pin p (by
      rcases List.mem_append.mp hp with z | z
      · exact List.mem_append_left _ z
      · exact List.mem_append_right _ (List.mem_cons_of_mem _ z))
    exact ⟨q1, by rw [old _ (hn p hp)]; exact q2, q3, q4, q5⟩
  · by_cases z : b = a
    · subst z
      rw [upd_same] at e
      cases e
      exact ⟨here, ⟨oe, p1⟩, fun h1 h2 z k => errAt_stay z k⟩
    · rw [old b z] at e
      exact (I.hok b o e).stay (fun _ _ _ q => q) (fun c q => by rw [old c fun y => by rw [y, p2] at q; cases q]; exact q) fun c xs q => by rw [old c fun y => by rw [y, p2] at q; cases q]; exact q
end
/-- the wish of 'except x as n: ..', n's error kept in the heap behind it -/
def wKp (K : PySem.W.Frag) (c : Value) (i : Nat) (ts : Addr → Value → Option Addr → TS) (Wout : WX) (D : Ends) : WX := fun cls d σ H => ∃ b, PySem.W.exmOne K cls c = some b ∧
  (b = true → ∀ a, H a = none → ts a cls d { nx := fun σ' H' => D.nx (σ'.set i none) (upd H' a (.ext (errAt a cls d))), rt := fun _ _ => False, bk := fun _ _ => False, ct := fun _ _ => False } (σ.set i (some (.ref a))) H) ∧ (b = false → Wout cls d σ H)
section
variable {X : Cx} {x n : Str} {c : Value} {i : Nat} {body suite : List Stmt} {st0 : Stmt} {np pos pos' : Pos} {tb : WX → TS} {ts : Addr → Value → Option Addr → TS} {Wout : WX}
/-- no frame has fields -/
theorem no_frame {g h : Heap} {l : List Env} {a : Addr} {o : Obj} {vs : Array Value} (ff : h.FunFrames g l) (e : h.get? a = some o) (dd : o.data = .fields vs) : a ∉ frs l := fun hm => by
  obtain ⟨_, u, e', hnf⟩ := ff.mem hm
  rw [e] at e'
  cases e'
  exact hnf _ dd
theorem try_keep (hx : X.ex = []) (hs : X.stack = X.env :: X.outer) (hf : X.env.frame = some X.env.locals) (hN : X.N.Nodup) (hi : X.N[i]? = some n) (hln : X.env.kindOf n = some .local) (hc : Names X x c) (tk : Takes X Wout)
    (hb : ∀ (W : WX) (pn : List (Addr × Obj)) (xe : Value → Shared → Prop), Takes (X.tr pn xe) W → PassesOwn (model X.prog X.w) X.A X.env xe → PSs (X.tr pn xe) body (tb W))
    (hsu : ∀ (a : Addr) (oe : Obj) (cls : Value) (d : Option Addr) (pn : List (Addr × Obj)), Zc cls d oe → (∃ vs, oe.data = .fields vs) → PSs (X.suite a ((a, oe) :: pn)) (st0 :: suite) (ts a cls d)) :
    PS X (.Try body [.ExceptHandler (some (.Name x np)) (some n) (st0 :: suite) pos'] [] [] pos) (fun D σ H => tb (wKp X.K c i ts Wout D) D σ H) := by
  refine ⟨fun pins s σ H D I h => wpAny_Try_except ?_⟩
  have ok := I.ok
  have ffr : X.A.frames = some (X.env :: X.outer) := ok.frames.trans (congrArg some hs)
  let hd : List ExceptHandler := [.ExceptHandler (some (.Name x np)) (some n) (st0 :: suite) pos']
  let K1 : Value → Shared → Prop := fun e s1 => wpAny (model X.prog X.w) X.A (noteFrame e X.env) (fun _ s2 => wpAny (model X.prog X.w) X.A (setFlight e none) (fun _ s3 => wpAny (model X.prog X.w) X.A (handleBy e X.env hd) (SP X pins D) X.xe s3) X.xe s2) X.xe s1
  have caught : ∀ u s', XE (X.tr (X.pn ++ pins) K1) (wKp X.K c i ts Wout D) u s' → K1 u s' := by
    rintro u s' ⟨a, G, sI, ps, σ1, H1, cls, d, rfl, J0, nb, up, sky, na, eo, ag, b, eb, yes, no⟩
    have J : Inv X pins σ1 H1 sI := J0.ofTry ok
    have sky : Sky G (X.env :: X.outer) a (Zc cls d) X.env.locals s'.heap := by rw [← hs]; exact sky
    refine Sky.land Zc.steady ffr hf sky fun g3 fly up3 => ?_
    have J3 : Inv X pins σ1 H1 { s' with heap := g3 } := J.landed nb fly.1 (up.trans up3) eo ag
    obtain ⟨oe, vs, ge, gz, gd⟩ := fly.there
    have nfr := no_frame fly.2.2.1 ge gd
    -- the error stood nowhere ahead of its raise
    have new : sI.heap.get? a = none := by
      cases q : sI.heap.get? a with
      | none => rfl
      | some o =>
        have := nb a o q (by rw [show frs (X.tr (X.pn ++ pins) K1).stack = frs (X.env :: X.outer) from congrArg frs hs]; exact nfr)
        rw [fly.2.1] at this; cases this
    have nL : a ≠ X.env.locals := fun z => nfr (List.mem_filterMap.mpr ⟨X.env, List.mem_cons_self, hf.trans (congrArg some z.symm)⟩)
    have nF : a ∉ X.fs := fun hm => by
      obtain ⟨e, he, q⟩ := List.mem_filterMap.mp hm
      exact nfr (List.mem_filterMap.mpr ⟨e, List.mem_cons_of_mem _ he, q⟩)
    have s0a : X.s_0.heap.get? a = none := by
      cases q : X.s_0.heap.get? a with
      | none => rfl
      | some o =>
        obtain ⟨_, hex⟩ := J.base.there a o q fun hm => by
          rw [hx] at hm; cases hm
        rw [new] at hex; cases hex
    have npn : ∀ p ∈ X.pn ++ pins, p.1 ≠ a := fun p hp z => by
      have := (J.pin p hp).1
      rw [z, new] at this; cases this
    have ncl : ∀ y cc, X.env.cells.lookup y = some cc → a ≠ cc := fun y cc e z => by
      obtain ⟨v, o, ho, _⟩ := J.cell y cc e
      rw [← z, new] at ho; cases ho
    have S3 := J3.suite ge gd na nL nF
    refine wpAny_handleBy_cons (codeAny_handlers_test ?_) (fun q => by cases q)
    have lt : PySem.W.Looks (model X.prog X.w) g3 (typeOf (.ref a)) cls := fun A Q E s k q => wpAny_typeOf_ref (k _ _ ge) (by rw [gz.1]; exact q)
    have lm := PySem.W.exm_one (M := model X.prog X.w) J3.kIn lt eb
    have tst : ∀ {Q E : Value → Shared → Prop}, Q c { s' with heap := g3 } → wpAny (model X.prog X.w) (X.A.mark (some (.ref a))) (eval (.Name x np) X.env) Q E { s' with heap := g3 } := fun {Q E} q => by
      obtain ⟨h1, h2, h3 | ⟨h3, h4, h5⟩⟩ := hc
      · exact ld_glob (X := X.suite a ((a, oe) :: (X.pn ++ pins))) S3 h1 h3 q h2
      · exact ld_blt (X := X.suite a ((a, oe) :: (X.pn ++ pins))) S3 h1 h3 h4 q h5 h2
    refine tst (lm.here ?_)
    cases b with
    | true =>
      refine codeAny_handlers_suite_as (HandSPX.lands_againZ fly fun g4 fly4 up4 => ?_)
      have J4 : Inv X pins σ1 H1 { s' with heap := g4 } := J.landed nb fly4.1 ((up.trans up3).trans up4) eo ag
      obtain ⟨o4, vs4, ge4, gz4, gd4⟩ := fly4.there
      refine store_ok (X := X.suite a ((a, o4) :: (X.pn ++ pins))) (v := .ref a) (J4.suite ge4 gd4 na nL nF) hN hi (.inl hln) rfl (fun s5 S5 => ?_) (.inr hln)
      refine wpAny_mono ((hsu a o4 cls d (X.pn ++ pins) gz4 ⟨_, gd4⟩).run [] s5 _ H1 _ S5 (yes rfl a na)) (fun f s6 r => ?_) fun _ _ z => z.elim
      cases f with
      | next =>
        obtain ⟨σ6, H6, S6, q6⟩ := r
        have U : Inv X ((a, o4) :: pins) σ6 H6 s6 := ⟨ok, S6.os, S6.bare, S6.base, S6.loc, S6.cell, S6.free, S6.freeC, fun p hp => S6.pin p (List.mem_append_left _ (by
          rcases List.mem_append.mp hp with z | z
          · exact List.mem_cons_of_mem _ (List.mem_append_left _ z)
          · rcases List.mem_cons.mp z with z | z
            · rw [z]; exact List.mem_cons_self
            · exact List.mem_cons_of_mem _ (List.mem_append_right _ z))), S6.hok, S6.len⟩
        exact gone_ok U hN hi hln fun s7 J7 => ⟨_, _, adopt J7 gz4 gd4 s0a npn ncl, q6⟩
      | brk => obtain ⟨_, _, _, q⟩ := r; exact q.elim
      | cont => obtain ⟨_, _, _, q⟩ := r; exact q.elim
      | ret u => obtain ⟨_, _, _, _, _, q⟩ := r; exact q.elim
    | false =>
      show wpAny _ X.A (handleBy (.ref a) X.env []) _ _ _
      refine wpAny_handleBy_nil ?_
      obtain ⟨_, _, _, oe, vs, T, oT, tt, he, _, hd, h1, _⟩ := id fly
      unfold PySem.passOn
      refine wpAny_bind (wpAny_field he hd h1 ?_)
      rw [if_neg (by simp : ¬ ((Value.ref T == Value.none) = true))]
      have fin : wpAny (model X.prog X.w) X.A (setFlight (.ref a) X.env.frame) (fun _ s4 => wpAny (model X.prog X.w) X.A (throw (.ref a) : Sem Flow) (SP X pins D) X.xe s4) X.xe { s' with heap := g3 } := by
        rw [hf]
        refine HandSPX.setFlight_upZ fly fun g4 held up4 => wpAny_throw (tk _ _ ⟨a, G, sI, pins, σ1, H1, cls, d, rfl, J, nb, (up.trans up3).trans up4, .inr (.inr (by rw [hs]; exact held)), na, eo, ag, no rfl⟩)
      first | exact wpAny_bind (wpAny_pure (wpAny_bind fin)) | exact wpAny_bind fin
  refine wpAny_mono ((hb _ (X.pn ++ pins) K1 caught PassesOwn.looking).run [] s σ H D (I.toTry _) h) (fun f s1 r => ?_) fun e s1 he => he
  cases f with
  | next =>
    obtain ⟨σ2, H2, J2, q⟩ := r
    exact wpAny_execs_nil ⟨σ2, H2, J2.ofTry ok, q⟩
  | brk => obtain ⟨σ2, H2, J2, q⟩ := r; exact ⟨σ2, H2, J2.ofTry ok, q⟩
  | cont => obtain ⟨σ2, H2, J2, q⟩ := r; exact ⟨σ2, H2, J2.ofTry ok, q⟩
  | ret u => obtain ⟨v, σ2, H2, J2, rv, q⟩ := r; exact ⟨v, σ2, H2, J2.ofTry ok, rv, q⟩
end
end RA
/-! RA12: statements: the check, and that what is checked does what the small language says. -/
namespace RA
open PySem PySem.Spec PyProof.Rows L2
variable [Tabs] [LentT]
/-! ### the check -/
/-- a plain local name at slot i -/
def okN (S : Stat) (sc : Scope) (i : Nat) (x : Str) : Bool := decide (S.N[i]? = some x) && stF sc x
def ausOk : Bop → Operator → Bool
  | .add, .Add => true | .sub, .Sub => true | _, _ => false
def noComp : Expr → Bool
  | .ListComp _ _ _ _ => false | .SetComp _ _ _ _ => false | .DictComp _ _ _ _ _ => false | .GeneratorExp _ _ _ _ => false | .Tuple _ _ _ => false | _ => true
def rseN (x : Str) : Stmt → Bool
  | .Raise (some (.Call (.Name y _) [.Constant (.str _) _ _] [] _)) none _ => decide (x = y)
  | _ => false
theorem rseN_of {x : Str} {st : Stmt} (h : rseN x st = true) : ∃ m j p p2 p3 pos, st = .Raise (some (.Call (.Name x p) [.Constant (.str m) j p2] [] p3)) none pos := by
  unfold rseN at h
  split at h
  · have e := of_decide_eq_true h
    subst e
    exact ⟨_, _, _, _, _, _, rfl⟩
  · cases h
/-- a plain local name -/
def stL (sc : Scope) (x : Str) : Bool := decide (sc.names.lookup x = some .local)
/-- x.pop() -/
def popE (x : Str) : Expr → Bool
  | .Call (.Attribute (.Name y _) m apos) [] [] cpos => decide (x = y) && decide (m = "pop") && (apos.endLine == cpos.line)
  | _ => false
/-- what stands before x.pop(), and behind it -/
def cutPop (x : Str) : List Expr → Option (List Expr × Expr × List Expr)
  | [] => none
  | e :: es => if popE x e = true then some ([], e, es) else (cutPop x es).map fun r => (e :: r.1, r.2.1, r.2.2)
/-- names -/
def okNs (S : Stat) (sc : Scope) : List Nat → List Expr → Bool
  | [], [] => true
  | i :: is, .Name x _ :: es => okV S sc i x && okNs S sc is es
  | _, _ => false
/-- what is handed to a call that may change lists -/
def okMix (S : Stat) (sc : Scope) : List Ar → List Expr → Option (List Expr)
  | [], [] => some []
  | .ln i :: as, .Name x _ :: es => if okV S sc i x = true then okMix S sc as es else none
  | .pl :: as, e :: es => (okMix S sc as es).map (e :: ·)
  | .tm :: as, e :: es => (okMix S sc as es).map (e :: ·)
  | _, _ => none
/-- f(.., x.pop(), names) -/
def decPop (S : Stat) (sc : Scope) (i : Nat) (x : Str) (ps : List Nat) : Expr → Option (List Expr)
  | .Call (.Name g _) es [] _ => (match cutPop x es with
    | some (pre, _, post) => if (okV S sc i x && okNs S sc ps post && isGl sc g && plainN g) = true then some pre else none
    | none => none)
  | _ => none
/-- who is called -/
def calN : Expr → Str
  | .Call (.Name g _) _ _ _ => g
  | _ => ""
/-- the parts of a further statement -/
def ytDec : YT → Stat → Scope → Stmt → Option (List Expr)
  | .rsx _ x n, _, sc, .Raise (some (.Call (.Name y _) es [] _)) none _ => if (decide (x = y) && isGl sc x && plainN x && decide (es.length = n)) = true then some es else none
  | .clr i, S, sc, .Expr (.Call (.Attribute (.Name x _) y apos) [] [] cpos) _ => if (okV S sc i x && decide (y = "clear") && (apos.endLine == cpos.line)) = true then some [] else none
  | .unl is, S, sc, .Assign [.Tuple es _ _] v _ => if (okTs S (stL sc) is es && decide (is.length = es.length) && noComp v) = true then some [v] else none
  | .apl i, S, sc, .Expr (.Call (.Attribute (.Name x _) y apos) [v] [] cpos) _ => if (okV S sc i x && decide (y = "append") && (apos.endLine == cpos.line)) = true then some [v] else none
  | .pop i j, S, sc, .Assign [.Name y _] (.Call (.Attribute (.Name x p) m apos) [] [] cpos) _ => if (okV S sc i x && decide (S.N[j]? = some y) && stL sc y && popE x (.Call (.Attribute (.Name x p) m apos) [] [] cpos)) = true then some [] else none
  | .popd i, S, sc, .Expr (.Call (.Attribute (.Name x p) m apos) [] [] cpos) _ => if (okV S sc i x && popE x (.Call (.Attribute (.Name x p) m apos) [] [] cpos)) = true then some [] else none
  | .apf i f ps, S, sc, .Expr (.Call (.Attribute (.Name x _) y apos) [v] [] cpos) _ => if (decide (y = "append") && (apos.endLine == cpos.line) && decide (S.nm f = calN v)) = true then decPop S sc i x ps v else none
  | .stf j i f ps, S, sc, .Assign [.Name y _] v _ => (match S.N[i]? with
    | some x => if (decide (S.N[j]? = some y) && stL sc y && decide (S.nm f = calN v) && noComp v) = true then decPop S sc i x ps v else none
    | none => none)
  | .lcl f as none, S, sc, .Expr (.Call (.Name g _) es [] _) _ => if (decide (S.nm f = g) && isGl sc g && plainN g && !es.isEmpty) = true then okMix S sc as es else none
  | .lcl f as (some j), S, sc, .Assign [.Name y _] (.Call (.Name g _) es [] _) _ => if (decide (S.nm f = g) && isGl sc g && plainN g && !es.isEmpty && decide (S.N[j]? = some y) && stL sc y) = true then okMix S sc as es else none
  | .sdf i false, S, sc, .If (.Compare (.Call (.Attribute (.Name x _) m apos) [a, b] [] cpos) [.NotEq] [c] _) [.Return (some (.Constant k _ _)) _] [] _ => if (okV S sc i x && decide (m = "setdefault") && (apos.endLine == cpos.line) && okK (.bl false) k) = true then some [a, b, c] else none
  | .sdf i true, S, sc, .If (.BoolOp .Or [.Compare l [.NotEq] [r] _, .Compare (.Call (.Attribute (.Name x _) m apos) [a, b] [] cpos) [.NotEq] [c] _] _) [.Return (some (.Constant k _ _)) _] [] _ => if (okV S sc i x && decide (m = "setdefault") && (apos.endLine == cpos.line) && okK (.bl false) k) = true then some [l, r, a, b, c] else none
  | .lcu f as is, S, sc, .Assign [.Tuple ts _ _] (.Call (.Name g p) es [] q) _ => if (decide (S.nm f = g) && isGl sc g && plainN g && !es.isEmpty && okTs S (stL sc) is ts && decide (is.length = ts.length) && noComp (.Call (.Name g p) es [] q)) = true then okMix S sc as es else none
  | _, _, _, _ => none
/-- a constant, as an except clause stores it -/
def okCst (d : D) : Expr → Bool
  | .Constant c _ _ => okK d c
  | _ => false
/-- try: body except y as n: m = n' -/
def tryAs : Stmt → Option (List Stmt × Str × Str × Str × Str)
  | .Try body [.ExceptHandler (some (.Name y _)) (some n) [.Assign [.Name m _] (.Name n' _) _] _] [] [] _ => some (body, y, n, m, n')
  | _ => none
theorem tryAs_of {st : Stmt} {body : List Stmt} {y n m n' : Str} (h : tryAs st = some (body, y, n, m, n')) : ∃ p1 p2 p3 p4 p5 p6, st = .Try body [.ExceptHandler (some (.Name y p1)) (some n) [.Assign [.Name m p2] (.Name n' p3) p4] p5] [] [] p6 := by
  unfold tryAs at h
  split at h
  · cases h; exact ⟨_, _, _, _, _, _, rfl⟩
  · cases h
/-- try: body except y: m = v -/
def tryCst : Stmt → Option (List Stmt × Str × Str × Expr)
  | .Try body [.ExceptHandler (some (.Name y _)) none [.Assign [.Name m _] v _] _] [] [] _ => some (body, y, m, v)
  | _ => none
theorem tryCst_of {st : Stmt} {body : List Stmt} {y m : Str} {v : Expr} (h : tryCst st = some (body, y, m, v)) : ∃ p1 p2 p4 p5 p6, st = .Try body [.ExceptHandler (some (.Name y p1)) none [.Assign [.Name m p2] v p4] p5] [] [] p6 := by
  unfold tryCst at h
  split at h
  · cases h; exact ⟨_, _, _, _, _, rfl⟩
  · cases h
mutual
def okSt (S : Stat) (xs : List (Nat × Str)) (sc : Scope) : IS → Stmt → Bool
  | .set i e, .Assign [.Name x _] v _ => okN S sc i x && okE S e sc v
  | .own i e, .Assign [.Name x _] v _ => okN S sc i x && okE S e sc v
  | .mv i e, .Assign [.Name x _] v _ => okN S sc i x && okE S e sc v
  | .unp is e, .Assign [.Tuple es _ _] v _ => okTs S (stF sc) is es && decide (is.length = es.length) && noComp v && okE S e sc v
  | .aug i op e, .AugAssign (.Name x _) o v _ => okN S sc i x && ausOk op o && okE S e sc v
  | .ins i k e, .Expr (.Call (.Attribute (.Name x _) y apos) [kx, v] [] cpos) _ => okV S sc i x && decide (y = "insert") && (apos.endLine == cpos.line) && okE S k sc kx && okE S e sc v
  | .app i e, .Expr (.Call (.Attribute (.Name x _) y apos) [v] [] cpos) _ => okV S sc i x && decide (y = "append") && (apos.endLine == cpos.line) && okE S e sc v
  | .put i k e, .Assign [.Subscript (.Name x _) kx _] v _ => okV S sc i x && noComp v && okE S k sc kx && okE S e sc v
  | .do_ e, .Expr v _ => noComp v && okE S e sc v
  | .if_ t a b, .If tx as bs _ => isTst t && okE S t sc tx && okSts S xs sc a as && okSts S xs sc b bs
  | .whl t b, .While tx bs [] _ => isTst t && okE S t sc tx && okSts S xs sc b bs
  | .for_ tg it b, .For tgx itx bs [] _ => okT S (stF sc) tg tgx && okI S it sc tgx itx && okSts S xs sc b bs
  | .ret e, .Return (some v) _ => okE S e sc v
  | .retp i, .Return (some (.Name x _)) _ => okV S sc i x
  | .retd i, .Return (some (.Name x _)) _ => okV S sc i x
  | .retN, .Return none _ => true
  | .brk, .Break _ => true
  | .cnt, .Continue _ => true
  | .pass, .Pass _ => true
  | .pass, .Expr (.Constant (.str _) _ _) _ => true
  | .nev, _ => true
  | .rse c x, st => rseN x st && xs.contains (c, x) && isGl sc x && plainN x
  | .xs t as, st => S.yts.contains t && (match ytDec t S sc st with | some es => okA S as sc es | none => false)
  | .try_ b y ys ns (.as i j), st => (match tryAs st with
    | some (body, y', n, m, n') => okSts S xs sc b body && decide (y = y') && S.trs.contains (y, ys, ns) && isGl sc y && plainN y && decide (S.N[i]? = some n) && decide (sc.names.lookup n = some .local) && decide (n' = n) && plainN n && okN S sc j m
    | none => false)
  | .try_ b y ys ns (.cst j d), st => (match tryCst st with
    | some (body, y', m, v) => okSts S xs sc b body && decide (y = y') && S.trs.contains (y, ys, ns) && isGl sc y && plainN y && okCst d v && okN S sc j m
    | none => false)
  | _, _ => false
termination_by structural x => x
def okSts (S : Stat) (xs : List (Nat × Str)) (sc : Scope) : IS → List Stmt → Bool
  | .nil, [] => true
  | .seq (.frz _) r, sts => okSts S xs sc r sts
  | .seq (.fgt _) r, sts => okSts S xs sc r sts
  | .seq .nev _, _ => true
  | .seq s r, st :: sts => okSt S xs sc s st && okSts S xs sc r sts
  | _, _ => false
termination_by structural x => x
end
/-! ### readings -/
structure Step (G : Ev) (σ : L2.St) (H : Hp) (G' : Ev) (σ' : L2.St) (H' : Hp) : Prop where
  ext : Ext (Owned G σ) H H'
  own : ∀ a, Owned G' σ' a → Owned G σ a ∨ H a = none
section
variable {G G' G2 : Ev} {σ σ' σ2 : L2.St} {H H' H2 : Hp}
theorem Step.refl : Step G σ H G σ H := ⟨Ext.refl _ _, fun a h => .inl h⟩
theorem Step.of (s : Same H H') (o : ∀ a, Owned G' σ' a → Owned G σ a ∨ H a = none) : Step G σ H G' σ' H' := ⟨Same.ext s, o⟩
theorem Step.none (s : Step G σ H G' σ' H') {a : Addr} (n : H' a = none) : Owned G σ a ∨ H a = none := by
  by_cases q : Owned G σ a
  · exact .inl q
  · by_cases h : H a = Option.none
    · exact .inr h
    · exact absurd n (s.ext.there a q h)
theorem Step.trans (s : Step G σ H G' σ' H') (t : Step G' σ' H' G2 σ2 H2) : Step G σ H G2 σ2 H2 := by
  have no : ∀ a, ¬ Owned G σ a → H a ≠ Option.none → ¬ Owned G' σ' a := fun a q h z => (s.own a z).elim q h
  refine ⟨⟨fun a o q e n => t.ext.keep a o (no a q (by rw [e]; intro z; cases z)) (s.ext.keep a o q e n) n, fun a ps q h => let ⟨_, e⟩ := s.ext.tbl a ps q h; t.ext.tbl a _ (no a q (by rw [h]; intro z; cases z)) e, fun x => t.ext.tab (s.ext.tab x), fun a o u h => t.ext.frz a o u (s.ext.frz a o u h)⟩, fun a h => ?_⟩
  · rcases t.own a h with z | z
    · exact s.own a z
    · exact s.none z
end
def RetS (c : Cfg) (B O : Addr → Prop) (H H' : Hp) (o : Bool) (d : D) (v : V) : Prop :=
  if o = true then ∃ a, v = .ref a ∧ (O a ∨ H a = none) ∧ OwnAt c (fun b => B b ∨ b = a) H' d a else Rep c B H' d v
def ResS (c : Cfg) (B : Addr → Prop) (W : WX) (D : Ends) (G : Ev) (σ : L2.St) (H : Hp) (o : Out) : Prop := match o with
  | .no => False
  | .nx G' => ∀ σ' H', StOk c B G' σ' H' → Step G σ H G' σ' H' → D.nx σ' H'
  | .ct G' => ∀ σ' H', StOk c B G' σ' H' → Step G σ H G' σ' H' → D.ct σ' H'
  | .bk G' => ∀ σ' H', StOk c B G' σ' H' → Step G σ H G' σ' H' → D.bk σ' H'
  | .rt o d => ∀ v H', Ext (Owned G σ) H H' → RetS c B (Owned G σ) H H' o d v → D.rt v H'
  | .ex G' x fs => ∀ cls dd σ' H', StOk c B G' σ' H' → Step G σ H G' σ' H' → ExcAt c (Zof B G' σ') H' x fs cls dd → W cls dd σ' H'
section
variable {c : Cfg} {B : Addr → Prop} {W : WX} {D : Ends} {G G' : Ev} {σ σ' : L2.St} {H H' : Hp} {o : Out}
theorem RetS.early {H2 : Hp} {b : Bool} {d : RA.D} {v : V} (s : Step G σ H G' σ' H') (h : RetS c B (Owned G' σ') H' H2 b d v) : RetS c B (Owned G σ) H H2 b d v := by
  cases b with
  | true =>
    obtain ⟨a, e, z, r⟩ := h
    exact ⟨a, e, z.elim (s.own a) s.none, r⟩
  | false => exact h
theorem ResS.later (h : ResS c B W D G σ H o) (s : Step G σ H G' σ' H') : ResS c B W D G' σ' H' o := by
  cases o with
  | no => exact h
  | nx G2 => exact fun σ2 H2 Su st => h σ2 H2 Su (s.trans st)
  | ct G2 => exact fun σ2 H2 Su st => h σ2 H2 Su (s.trans st)
  | bk G2 => exact fun σ2 H2 Su st => h σ2 H2 Su (s.trans st)
  | rt b d => exact fun v H2 e r => h v H2 (s.trans (G2 := G') (σ2 := σ') ⟨e, fun a z => .inl z⟩).ext (r.early s)
  | ex G2 x fs => exact fun cls dd σ2 H2 Su st e => h cls dd σ2 H2 Su (s.trans st) e
end
def tS (c : Cfg) (B : Addr → Prop) (W : WX) (G : Ev) (o : Out) : TS := fun D σ H => StOk c B G σ H ∧ ResS c B W D G σ H o
/-- at whatever state -/
def tSx (c : Cfg) (B : Addr → Prop) (W : WX) (f : Ev → Out) : TS := fun D σ H => ∃ G, tS c B W G (f G) D σ H
theorem _root_.L2.PS.any {X : Cx} {e : Stmt} {α : Type} {t : α → TS} (h : ∀ g, PS X e (t g)) : PS X e (fun D σ H => ∃ g, t g D σ H) := ⟨fun pins s σ H D I ⟨g, q⟩ => (h g).run pins s σ H D I q⟩
theorem _root_.L2.PSs.any {X : Cx} {e : List Stmt} {α : Type} {t : α → TS} (h : ∀ g, PSs X e (t g)) : PSs X e (fun D σ H => ∃ g, t g D σ H) := ⟨fun pins s σ H D I ⟨g, q⟩ => (h g).run pins s σ H D I q⟩
theorem _root_.L2.PS.never {X : Cx} {e : Stmt} {t : TS} (k : ∀ σ H D, ¬ t D σ H) : PS X e t := ⟨fun pins s σ H D I q => (k σ H D q).elim⟩
theorem _root_.L2.PSs.never {X : Cx} {e : List Stmt} {t : TS} (k : ∀ σ H D, ¬ t D σ H) : PSs X e t := ⟨fun pins s σ H D I q => (k σ H D q).elim⟩
/-- an exception class of the text -/
structure ExOk (X : Cx) (O : OpT) (c : Nat) (x : Str) : Prop where
  ex : ∃ (bmB : List Value) (Bn newId initId : String), ExcBaseFacts Bn newId initId bmB ∧ PySem.W.excIn X.K (O.ecls c) bmB newId = true
  mg : X.mg x = some (.ref (O.ecls c))
  kp : PySem.W.keepIn X.K (.ref (O.ecls c)) = true
  rs : Raises X (.ref (O.ecls c))
/-- a further statement does what the small language says -/
def YtOk (S : Stat) (c : Cfg) (t : YT) : Prop := ∀ (X : Cx) (O : OpT) (W : WX) (sc : Scope) (B : Addr → Prop) (G : Ev) (st : Stmt) (es : List Expr) (as : IEs), cfg X O = c → CtxB S X O W sc → ytDec t S sc st = some es →
  ytPre t G = true → ytPo S.F t as G = true → (∀ G', Parts S X O W sc B G' es as) → PS X st (tS (cfg X O) B W G ((evs S.F as G).out G (ytD S.F t G)))
/-- an own error, kept as a value -/
def ErrOp (O : OpT) (k : Nat) : Prop := ∀ (B : Addr → Prop) (H : Hp) (a : Addr) (dd : Option Addr) (vs : List V), ¬ B a → H a = some (.ext (errAt a (.ref (O.ecls k)) dd)) → ((vs = [] ∧ dd = none) ∨ ∃ d, dd = some d ∧ ¬ B d ∧ H d = some (.xd ((O.enames k).zip vs))) → O.op B H k vs a
/-- the class y of an except clause: the errors ys are its, ns are not -/
structure TrOk (K : PySem.W.Frag) (mg : Str → Option Value) (O : OpT) (y : Str) (ys ns : List Nat) : Prop where
  cl : ∃ c, mg y = some c ∧ (∀ k, ys.contains k = true → PySem.W.exmOne K (.ref (O.ecls k)) c = some true) ∧ ∀ k, ns.contains k = true → PySem.W.exmOne K (.ref (O.ecls k)) c = some false
  op : ∀ k, ys.contains k = true → ErrOp O k
structure CtxS (S : Stat) (X : Cx) (O : OpT) (W : WX) (sc : Scope) (xs : List (Nat × Str)) : Prop extends CtxOk S X O W sc where
  po : PassesOwn (model X.prog X.w) X.A X.env X.xe
  fn : ∀ x, X.env.scope.names.lookup x = some .cell → X.fn x = true
  xs : ∀ c x, xs.contains (c, x) = true → ExOk X O c x
  yt : ∀ t, S.yts.contains t = true → YtOk S (cfg X O) t
  tr : ∀ y ys ns, S.trs.contains (y, ys, ns) = true → TrOk X.K X.mg O y ys ns
  stk : X.stack = X.env :: X.outer
  fra : X.env.frame = some X.env.locals
  exn : X.ex = []
/-! ### one by one -/
section
variable {S : Stat} {X : Cx} {O : OpT} {W : WX} {sc : Scope} {xs : List (Nat × Str)} {B : Addr → Prop} {n : Nat}
/-- an expression, then an end -/
theorem st_read {c : Cfg} {ra : Rs (Fl × RA.D)} {k : Fl × RA.D → Out} {D : Ends} {G : Ev} {σ : L2.St} {H : Hp} {T : V → Hp → Prop} (h : tS c B W G (ra.out G k) D σ H)
    (q : ∀ a v H1, Same H H1 → StOk c B G σ H → StOk c B G σ H1 → RepF c (Zof B G σ) H H1 a v → ResS c B W D G σ H (k a) → T v H1) : tE c B W G ra σ H T := by
  obtain ⟨Su, R⟩ := h
  refine ⟨Su, ?_⟩
  cases ra with
  | no => exact R
  | ok a => exact fun v H1 s1 rv => q a v H1 s1 Su (Su.same s1) rv R
  | ex x fs => exact fun cls dd H' s e => R cls dd σ H' (Su.same s) (Step.of s fun a z => .inl z) e
theorem CtxS.locs (C : CtxS S X O W sc xs) : ∀ x, stF sc x = true → Loc X.env.scope x ∧ (X.fn x = true ∨ X.env.scope.names.lookup x = some .local) := fun x hx => by
  unfold stF at hx
  rw [Bool.or_eq_true] at hx
  rw [C.sc]
  exact ⟨hx.imp of_decide_eq_true of_decide_eq_true, hx.elim (fun h => .inr (of_decide_eq_true h)) fun h => .inl (C.fn x (by rw [C.sc]; exact of_decide_eq_true h))⟩
theorem CtxS.fnL (C : CtxS S X O W sc xs) {x : Str} (h : Loc X.env.scope x) : X.fn x = true ∨ X.env.scope.names.lookup x = some .local := h.elim .inr fun k => .inl (C.fn x k)
theorem okN_of (C : CtxS S X O W sc xs) {i : Nat} {x : Str} (h : okN S sc i x = true) : X.N[i]? = some x ∧ Loc X.env.scope x := by
  unfold okN at h
  rw [Bool.and_eq_true, decide_eq_true_eq] at h
  exact ⟨by rw [C.N]; exact h.1, (C.locs x h.2).1⟩
theorem st_set (C : CtxS S X O W sc xs) {i : Nat} {e : IE} {x : Str} {v : Expr} {p pos : Pos} (h : (okN S sc i x && okE S e sc v) = true) (G : Ev) : PS X (.Assign [.Name x p] v pos) (tS (cfg X O) B W G (exec S.F n (.set i e) G)) := by
  rw [Bool.and_eq_true] at h
  obtain ⟨h1, h2⟩ := okN_of C h.1
  refine (set_ok (O := O) (B := B) (G := G) S e C.toCtxOk h.2 h1 h2 (C.fnL h2)).weak fun D σ H hq => ?_
  refine st_read (T := fun x H1 => gName i x σ H1 D.nx) hq fun a v H1 s1 Su Su1 rv R => ?_
  split at R
  · exact False.elim R
  · rename_i hf
    exact R _ _ (Su1.set (rv.keep hf Su.ztr)) (Step.of s1 fun a z => .inl (own_set z))
theorem st_own (C : CtxS S X O W sc xs) {i : Nat} {e : IE} {x : Str} {v : Expr} {p pos : Pos} (h : (okN S sc i x && okE S e sc v) = true) (G : Ev) : PS X (.Assign [.Name x p] v pos) (tS (cfg X O) B W G (exec S.F n (.own i e) G)) := by
  rw [Bool.and_eq_true] at h
  obtain ⟨h1, h2⟩ := okN_of C h.1
  refine (set_ok (O := O) (B := B) (G := G) S e C.toCtxOk h.2 h1 h2 (C.fnL h2)).weak fun D σ H hq => ?_
  refine st_read (T := fun x H1 => gName i x σ H1 D.nx) hq fun a v H1 s1 Su Su1 rv R => ?_
  split at R
  · rename_i hf
    obtain ⟨f, d⟩ := a
    cases hf
    obtain ⟨a, rfl, na, o⟩ := rv
    exact R _ _ (Su.own' s1 na o) (Step.of s1 fun b z => (own_own z).imp id fun e => by rw [e]; exact na)
  · exact False.elim R
theorem st_mv (C : CtxS S X O W sc xs) {i : Nat} {e : IE} {x : Str} {v : Expr} {p pos : Pos} (h : (okN S sc i x && okE S e sc v) = true) (G : Ev) : PS X (.Assign [.Name x p] v pos) (tS (cfg X O) B W G (exec S.F n (.mv i e) G)) := by
  rw [Bool.and_eq_true] at h
  obtain ⟨h1, h2⟩ := okN_of C h.1
  refine (set_ok (O := O) (B := B) (G := G) S e C.toCtxOk h.2 h1 h2 (C.fnL h2)).weak fun D σ H hq => ?_
  refine st_read (T := fun x H1 => gName i x σ H1 D.nx) hq fun a v H1 s1 Su Su1 rv R => ?_
  split at R
  · exact False.elim R
  · rename_i hf
    obtain ⟨f, d⟩ := a
    cases f with
    | tmp => exact absurd rfl hf
    | val => exact R _ _ (Su1.set (RepF.keep (x := (Fl.val, d)) rv hf Su.ztr)) (Step.of s1 fun a z => .inl (own_set z))
    | own =>
      obtain ⟨a, rfl, na, o⟩ := rv
      exact R _ _ (Su.own' s1 na o) (Step.of s1 fun b z => (own_own z).imp id fun e => by rw [e]; exact na)
theorem noComp_sw {v : Expr} {env : Env} (h : noComp v = true) : (∀ t l, swapsWith v t l env = pure false) ∧ ∀ ts l, swapsWithSole ts v l env = pure false ∧ swappedStores ts v env = pure none := by
  have h1 : ∀ t l, swapsWith v t l env = pure false := by cases v <;> first | (intro t l; rfl) | cases h
  refine ⟨h1, fun ts l => ⟨?_, ?_⟩⟩
  · unfold swapsWithSole
    split
    · exact h1 _ _
    · rfl
  · unfold swappedStores
    cases v <;> first | (cases h; done) | skip
    all_goals
      cases ts with
      | nil => rfl
      | cons t ts =>
        cases ts with
        | nil => cases t <;> rfl
        | cons _ _ => cases t <;> rfl
theorem st_unp (C : CtxS S X O W sc xs) {is : List Nat} {e : IE} {es : List Expr} {v : Expr} {j : Nat} {p pos : Pos} (h : (okTs S (stF sc) is es && decide (is.length = es.length) && noComp v && okE S e sc v) = true) (G : Ev) : PS X (.Assign [.Tuple es j p] v pos) (tS (cfg X O) B W G (exec S.F n (.unp is e) G)) := by
  simp only [Bool.and_eq_true, decide_eq_true_eq] at h
  obtain ⟨⟨⟨h1, h2⟩, h3⟩, h4⟩ := h
  obtain ⟨k1, k2⟩ := noComp_sw (env := X.env) h3
  have hg : PG X (.Tuple es j p) (gTg X.K (.tup is)) := pg_tg (S := S) (sl := stF sc) C.N C.nd C.locs C.calm (by simp only [okT, h1, Bool.true_and, decide_eq_true_eq]; exact h2)
  refine (ps_asg (ev_ok (O := O) S e X W sc B G v C.toCtxOk h4).1 hg (k2 _ _).1 (k2 [.Tuple es j p] 0).2 rfl).weak fun D σ H hq => ?_
  refine st_read (T := fun x H1 => gTg X.K (.tup is) x σ H1 D.nx) hq fun a v H1 s1 Su Su1 rv R => ?_
  split at R
  · exact False.elim R
  · rename_i hf
    split at R
    · rename_i G' hb
      exact gTg_ok (c := cfg X O) hb (rv.keep hf Su.ztr) Su1 fun σ' Su' lo at' => R σ' H1 Su' (Step.of s1 fun a z => .inl (lo a z))
    · exact False.elim R
theorem st_aug (C : CtxS S X O W sc xs) {i : Nat} {op : Bop} {o : Operator} {e : IE} {x : Str} {v : Expr} {p pos : Pos} (h : (okN S sc i x && ausOk op o && okE S e sc v) = true) (G : Ev) : PS X (.AugAssign (.Name x p) o v pos) (tS (cfg X O) B W G (exec S.F n (.aug i op e) G)) := by
  rw [Bool.and_eq_true, Bool.and_eq_true] at h
  obtain ⟨⟨h0, hop⟩, he⟩ := h
  obtain ⟨h1, h2⟩ := okN_of C h0
  have hE := (ev_ok (O := O) S e X W sc B G v C.toCtxOk he).1
  have key : ∀ {ti : TIp} (hi : PIp X o ti) (_ : ∀ x y H Q, ti (.int x) (.int y) H Q ↔ True → True), True := fun _ _ => trivial
  have fin : ∀ (f : Int → Int → Int) (hi : PIp X o (ipI f)), (∀ x y : Int, (match op with | .add => some (x + y) | .sub => some (x - y) | _ => none) = some (f x y)) → PS X (.AugAssign (.Name x p) o v pos) (tS (cfg X O) B W G (exec S.F n (.aug i op e) G)) := fun f hi hf => by
    refine (ps_aug C.nd h1 h2 hE hi (C.fnL h2)).weak fun D σ H hq => ?_
    obtain ⟨Su, R⟩ := hq
    simp only [exec] at R
    split at R
    · rename_i x ex
      obtain ⟨w, g1, g2⟩ := Su.val i _ ex
      cases g2
      refine ⟨_, g1, ?_⟩
      refine st_read (B := B) (c := cfg X O) (D := D) (W := W) (T := fun y H1 => ipI f (.int x) y H1 fun z H2 => D.nx (σ.set i (some z)) H2) ⟨Su, R⟩ fun a v H1 s1 Su Su1 rv R => ?_
      obtain ⟨fl, d⟩ := a
      cases d with
      | int y =>
        refine ⟨x, y, rfl, rv.int, ?_⟩
        have hfx := hf x y
        cases op <;> simp only [Option.some.injEq, reduceCtorEq] at hfx
        all_goals
          rw [← hfx]
          exact R _ _ (Su1.set (.int _)) (Step.of s1 fun a z => .inl (own_set z))
      | _ => exact False.elim R
    · exact False.elim R
  cases op <;> cases o <;> first | (cases hop; done) | skip
  · exact fin (fun i j => i + j) ip_add fun x y => rfl
  · exact fin (fun i j => i - j) ip_sub fun x y => rfl
theorem StOk.ownAt {c : Cfg} {G : Ev} {σ : L2.St} {H : Hp} {i : Nat} {d : RA.D} (Su : StOk c B G σ H) (e : G[i]? = some (some (true, d))) (nl : isLn d = false) : ∃ a, σ[i]? = some (some (.ref a)) ∧ OwnAt c (Zof B G σ) H d a := let ⟨a, h1, h2⟩ := Su.own i d e; ⟨a, h1, h2.out nl⟩
theorem okV_pv (C : CtxOk S X O W sc) {i : Nat} {x : Str} {p : Pos} (h : okV S sc i x = true) : PE X (.Name x p) (tVar i) := by
  unfold okV at h
  simp only [Bool.and_eq_true, decide_eq_true_eq] at h
  obtain ⟨⟨h1, h2⟩, h3⟩ := h
  obtain ⟨p1, p2, _⟩ := plainN_of h3
  exact pe_var (i := i) (by rw [C.N]; exact h1) (C.vis h2) p1 p2
theorem st_app (C : CtxOk S X O W sc) {i : Nat} {e : IE} {x y : Str} {v : Expr} {p apos cpos pos : Pos} (h : (okV S sc i x && decide (y = "append") && (apos.endLine == cpos.line) && okE S e sc v) = true) (G : Ev) :
    PS X (.Expr (.Call (.Attribute (.Name x p) y apos) [v] [] cpos) pos) (tS (cfg X O) B W G (exec S.F n (.app i e) G)) := by
  simp only [Bool.and_eq_true, decide_eq_true_eq] at h
  obtain ⟨⟨⟨h1, rfl⟩, h3⟩, h4⟩ := h
  have hE := (ev_ok (O := O) S e X W sc B G v C h4).1
  have hs : starEach [v] X.env = (false, eval v X.env) :: starEach [] X.env := star_cons (okE_plain h4)
  refine (ps_expr (pe_bm PySem.F.plainAttrs_list PySem.F.slot_list_append PySem.F.type_list_append mt_append (okV_pv C h1) (pa_cons hE pa_nil hs) rfl (by rw [hs]; rfl) h3 hs rfl) rfl).weak fun D σ H hq => ?_
  obtain ⟨Su, R⟩ := hq
  simp only [exec] at R
  split at R
  · rename_i ds ex
    obtain ⟨a, g1, g2⟩ := Su.ownAt ex rfl
    obtain ⟨vs, g3, g4⟩ : ∃ vs, H a = some (.lst vs) ∧ Reps (cfg X O) (Zof B G σ) H ds vs := by cases g2 with | lst h r => exact ⟨_, h, r⟩
    refine ⟨_, g1, .inl ⟨rfl, vs, .inl (.inl g3)⟩, ?_⟩
    refine st_read (c := cfg X O) (B := B) (W := W) (D := D) (T := fun y H1 => rAppend (.ref a) [y] H1 fun _ H2 => D.nx σ H2) ⟨Su, R⟩ fun r v H1 s1 Su Su1 rv R => ?_
    split at R
    · rename_i hf
      have g5 := s1.keep _ _ g3 trivial
      refine ⟨a, vs, v, rfl, rfl, g5, by rw [← g4.length]; exact hf.2, ?_⟩
      have oa : Owned G σ a := ⟨i, _, ex, g1⟩
      have hx : ∀ b, b ≠ a → H1 b ≠ none → (upd H1 a (.lst (vs ++ [v]))) b = H1 b := fun b nb _ => upd_ne nb
      have ez : Ext (Zof B G σ) H1 (upd H1 a (.lst (vs ++ [v]))) := Ext.upd g5 trivial (.inr oa)
      obtain ⟨k1, k2⟩ := Su1.wr (d' := .lst (ds ++ [r.2])) ex g1 hx (.lst upd_same (Reps.app ((g4.same s1).mono ez) (.cons ((rv.keep hf.1 Su.ztr).mono ez) .nil)))
      exact R _ _ k1 ⟨(Same.ext s1).trans (Ext.upd g5 trivial oa), fun b z => .inl (k2 b z)⟩
    · exact False.elim R
  · exact False.elim R
theorem st_ins (C : CtxOk S X O W sc) {i : Nat} {k e : IE} {x y : Str} {kx v : Expr} {p apos cpos pos : Pos} (h : (okV S sc i x && decide (y = "insert") && (apos.endLine == cpos.line) && okE S k sc kx && okE S e sc v) = true) (G : Ev) :
    PS X (.Expr (.Call (.Attribute (.Name x p) y apos) [kx, v] [] cpos) pos) (tS (cfg X O) B W G (exec S.F n (.ins i k e) G)) := by
  simp only [Bool.and_eq_true, decide_eq_true_eq] at h
  obtain ⟨⟨⟨⟨h1, rfl⟩, h3⟩, h5⟩, h4⟩ := h
  have hE := (ev_ok (O := O) S e X W sc B G v C h4).1
  have hK := (ev_ok (O := O) S k X W sc B G kx C h5).1
  have hs2 : starEach [v] X.env = [(false, eval v X.env)] := star_cons (okE_plain h4)
  have hs : starEach [kx, v] X.env = (false, eval kx X.env) :: starEach [v] X.env := star_cons (okE_plain h5)
  refine (ps_expr (pe_bm PySem.F.plainAttrs_list PySem.F.slot_list_insert PySem.F.type_list_insert mt_insert (okV_pv C h1) (pa_cons hK (pa_cons hE pa_nil hs2) hs) rfl (by rw [hs, hs2]; rfl) h3 hs (by rw [hs2]; rfl)) rfl).weak fun D σ H hq => ?_
  obtain ⟨Su, R⟩ := hq
  simp only [exec] at R
  split at R
  · rename_i ds ex
    obtain ⟨a, g1, g2⟩ := Su.ownAt ex rfl
    obtain ⟨vs, g3, g4⟩ : ∃ vs, H a = some (.lst vs) ∧ Reps (cfg X O) (Zof B G σ) H ds vs := by cases g2 with | lst h r => exact ⟨_, h, r⟩
    refine ⟨_, g1, .inl ⟨rfl, vs, .inl (.inl g3)⟩, ?_⟩
    refine st_read (c := cfg X O) (B := B) (W := W) (D := D) (T := fun q H1 => tE (cfg X O) B W G (ev S.F e G) σ H1 fun y H2 => ∃ (l : Addr) (xs : List V) (i : Int) (y' : V), V.ref a = .ref l ∧ [q, y] = [.int i, y'] ∧ H2 l = some (.lst xs) ∧ xs.length < sizeLine ∧ 0 ≤ i ∧ i < 2 ^ 63 ∧ D.nx σ (upd H2 l (.lst (xs.take i.toNat ++ [y'] ++ xs.drop i.toNat)))) ⟨Su, R⟩ fun q w H1 s1 _ Su1 rq R => ?_
    refine st_read (c := cfg X O) (B := B) (W := W) (D := D) (T := fun y H2 => ∃ (l : Addr) (xs : List V) (i : Int) (y' : V), V.ref a = .ref l ∧ [w, y] = [.int i, y'] ∧ H2 l = some (.lst xs) ∧ xs.length < sizeLine ∧ 0 ≤ i ∧ i < 2 ^ 63 ∧ D.nx σ (upd H2 l (.lst (xs.take i.toNat ++ [y'] ++ xs.drop i.toNat)))) ⟨Su1, R.later (Step.of s1 fun a z => .inl z)⟩ fun r v H2 s2 _ Su2 rv R => ?_
    obtain ⟨fq, dq⟩ := q
    cases dq with
    | int j =>
      dsimp only at R
      split at R
      · rename_i hf
        have g5 := s2.keep _ _ (s1.keep _ _ g3 trivial) trivial
        refine ⟨a, vs, j, v, rfl, by rw [rq.int], g5, by rw [← g4.length]; exact hf.2.2.2, hf.2.1, hf.2.2.1, ?_⟩
        have oa : Owned G σ a := ⟨i, _, ex, g1⟩
        have hx : ∀ b, b ≠ a → H2 b ≠ none → (upd H2 a (.lst (vs.take j.toNat ++ [v] ++ vs.drop j.toNat))) b = H2 b := fun b nb _ => upd_ne nb
        have ez : Ext (Zof B G σ) H2 (upd H2 a (.lst (vs.take j.toNat ++ [v] ++ vs.drop j.toNat))) := Ext.upd g5 trivial (.inr oa)
        have g6 := ((g4.same s1).same s2).mono ez
        obtain ⟨k1, k2⟩ := Su2.wr (d' := .lst (ds.take j.toNat ++ [r.2] ++ ds.drop j.toNat)) ex g1 hx (.lst upd_same (Reps.app (Reps.app (g6.take _) (.cons ((rv.keep hf.1 Su1.ztr).mono ez) .nil)) (g6.drop _)))
        exact R _ _ k1 ⟨(Same.ext s2).trans (Ext.upd g5 trivial oa), fun b z => .inl (k2 b z)⟩
      · exact False.elim R
    | _ => exact False.elim R
  · exact False.elim R
theorem st_do (C : CtxOk S X O W sc) {e : IE} {v : Expr} {pos : Pos} (h : (noComp v && okE S e sc v) = true) (G : Ev) : PS X (.Expr v pos) (tS (cfg X O) B W G (exec S.F n (.do_ e) G)) := by
  rw [Bool.and_eq_true] at h
  obtain ⟨k1, k2⟩ := noComp_sw (env := X.env) h.1
  refine (ps_expr (ev_ok (O := O) S e X W sc B G v C h.2).1 (k1 _ _)).weak fun D σ H hq => ?_
  exact st_read (T := fun x H1 => D.nx σ H1) hq fun a v H1 s1 Su Su1 rv R => R _ _ Su1 (Step.of s1 fun a z => .inl z)
theorem RepF.ret {c : Cfg} {G : Ev} {σ : L2.St} {H H1 : Hp} {a : Fl × RA.D} {v : V} (s : Same H H1) (Su : StOk c B G σ H) (rv : RepF c (Zof B G σ) H H1 a v) (hf : a.1 ≠ .tmp) : RetS c B (Owned G σ) H H1 (decide (a.1 = .own)) a.2 v := by
  obtain ⟨f, d⟩ := a
  cases f with
  | val => exact Rep.less (fun b z => .inl z) rv
  | tmp => exact absurd rfl hf
  | own =>
    obtain ⟨a, rfl, na, r⟩ := rv
    exact ⟨a, rfl, .inr na, r.grow fun b z => .inl (z.elim (fun q => .inl (.inl q)) .inr)⟩
theorem st_ret (C : CtxOk S X O W sc) {e : IE} {v : Expr} {pos : Pos} (h : okE S e sc v = true) (G : Ev) : PS X (.Return (some v) pos) (tS (cfg X O) B W G (exec S.F n (.ret e) G)) := by
  refine (ps_ret (ev_ok (O := O) S e X W sc B G v C h).1).weak fun D σ H hq => ?_
  refine st_read (T := D.rt) hq fun a v H1 s1 Su Su1 rv R => ?_
  split at R
  · exact False.elim R
  · rename_i hf
    exact R v H1 (Same.ext s1) (rv.ret s1 Su hf)
theorem st_retp (C : CtxOk S X O W sc) {i : Nat} {x : Str} {p pos : Pos} (h : okV S sc i x = true) (G : Ev) : PS X (.Return (some (.Name x p)) pos) (tS (cfg X O) B W G (exec S.F n (.retp i) G)) := by
  refine (ps_ret (okV_pv C h)).weak fun D σ H hq => ?_
  obtain ⟨Su, R⟩ := hq
  simp only [exec] at R
  split at R
  · rename_i d ex
    split at R
    · exact False.elim R
    rename_i nl
    obtain ⟨a, g1, g2⟩ := Su.ownAt ex (by simpa using nl)
    have oa : Owned G σ a := ⟨i, _, ex, g1⟩
    exact ⟨_, g1, R _ _ (Ext.refl _ _) ⟨a, rfl, .inl oa, g2.grow fun b z => .inl (z.elim .inl fun e => .inr (by rw [e]; exact oa))⟩⟩
  · exact False.elim R
theorem st_retd (C : CtxOk S X O W sc) {i : Nat} {x : Str} {p pos : Pos} (h : okV S sc i x = true) (G : Ev) : PS X (.Return (some (.Name x p)) pos) (tS (cfg X O) B W G (exec S.F n (.retd i) G)) := by
  refine (ps_ret (okV_pv C h)).weak fun D σ H hq => ?_
  obtain ⟨Su, R⟩ := hq
  simp only [exec] at R
  split at R
  · rename_i b d ex
    cases b with
    | true =>
      split at R
      · exact False.elim R
      rename_i nl
      obtain ⟨a, g1, g2⟩ := Su.ownAt ex (by simpa using nl)
      have oa : Owned G σ a := ⟨i, _, ex, g1⟩
      exact ⟨_, g1, R _ _ (Ext.refl _ _) ⟨a, rfl, .inl oa, g2.grow fun b z => .inl (z.elim .inl fun e => .inr (by rw [e]; exact oa))⟩⟩
    | false =>
      obtain ⟨v, g1, g2⟩ := Su.val i _ ex
      exact ⟨_, g1, R v H (Ext.refl _ _) (Rep.less (fun b z => .inl z) g2)⟩
  · exact False.elim R
theorem st_put (C : CtxOk S X O W sc) {i : Nat} {k e : IE} {x : Str} {kx v : Expr} {p p2 pos : Pos} (h : (okV S sc i x && noComp v && okE S k sc kx && okE S e sc v) = true) (G : Ev) :
    PS X (.Assign [.Subscript (.Name x p) kx p2] v pos) (tS (cfg X O) B W G (exec S.F n (.put i k e) G)) := by
  simp only [Bool.and_eq_true] at h
  obtain ⟨⟨⟨h1, h2⟩, h3⟩, h4⟩ := h
  obtain ⟨k1, k2⟩ := noComp_sw (env := X.env) h2
  have hE := (ev_ok (O := O) S e X W sc B G v C h4).1
  have hK := (ev_ok (O := O) S k X W sc B G kx C h3).1
  have hpk := okE_plain h3
  have ha : ∀ v, assign (.Subscript (.Name x p) kx p2) X.env v = (do
      let ov ← holding [v] (eval (.Name x p) X.env)
      let iv ← holding [v, ov] (eval kx X.env)
      standAt p2
      holding [v, ov, iv] (setItem ov iv v)
      release [v, ov, iv] []) := by
    intro v
    cases kx <;> first | rfl | exact hpk.elim
  have sole : swapsWithSole [.Subscript (.Name x p) kx p2] v pos.line X.env = pure false := (k2 _ _).1
  have a1 : (assignEach [.Subscript (.Name x p) kx p2] X.env).map (·.2) = [assign (.Subscript (.Name x p) kx p2) X.env] := by rfl
  refine (ps_asg hE (pg_sub (okV_pv C h1) hK (PSet.or set_list (PSet.or (set_dict (O := O)) (set_dictT (O := O) C.room.units))) ha) sole (k2 [.Subscript (.Name x p) kx p2] 0).2 a1).weak fun D σ H hq => ?_
  obtain ⟨Su, R⟩ := hq
  by_cases hds : ∃ ds, G[i]? = some (some (true, .lst ds))
  · obtain ⟨ds, ex⟩ := hds
    obtain ⟨a, g1, g2⟩ := Su.ownAt ex rfl
    obtain ⟨vs, g3, g4⟩ : ∃ vs, H a = some (.lst vs) ∧ Reps (cfg X O) (Zof B G σ) H ds vs := by cases g2 with | lst h r => exact ⟨_, h, r⟩
    simp only [exec, ex] at R
    refine st_read (c := cfg X O) (B := B) (W := W) (D := D) (T := fun y H1 => gSub (tVar i) (tE (cfg X O) B W G (ev S.F k G)) (fun o i v H Q => rSetL o i v H Q ∨ rSetD (cfg X O) o i v H Q ∨ rSetT (cfg X O) o i v H Q) y σ H1 D.nx) ⟨Su, R⟩ fun r v H1 s1 Su Su1 rv R => ?_
    refine ⟨_, g1, ?_⟩
    refine st_read (c := cfg X O) (B := B) (W := W) (D := D) (T := fun y H2 => rSetL (.ref a) y v H2 (fun H3 => D.nx σ H3) ∨ rSetD (cfg X O) (.ref a) y v H2 (fun H3 => D.nx σ H3) ∨ rSetT (cfg X O) (.ref a) y v H2 fun H3 => D.nx σ H3) ⟨Su1, R.later (Step.of s1 fun a z => .inl z)⟩ fun q w H2 s2 _ Su2 rw' R => ?_
    obtain ⟨fq, dq⟩ := q
    cases dq with
    | int j =>
      dsimp only at R
      split at R
      · rename_i m hm
        split at R
        · exact False.elim R
        · rename_i hf
          have g5 := s2.keep _ _ (s1.keep _ _ g3 trivial) trivial
          refine .inl ⟨a, vs, j, m, rfl, rw'.int, g5, by rw [← g4.length]; exact hm, ?_⟩
          have oa : Owned G σ a := ⟨i, _, ex, g1⟩
          have hx : ∀ b, b ≠ a → H2 b ≠ none → (upd H2 a (.lst (vs.set m v))) b = H2 b := fun b nb _ => upd_ne nb
          have ez : Ext (Zof B G σ) H2 (upd H2 a (.lst (vs.set m v))) := Ext.upd g5 trivial (.inr oa)
          obtain ⟨k1, k2⟩ := Su2.wr (d' := .lst (ds.set m r.2)) ex g1 hx (.lst upd_same (Reps.set (((rv.mono s2).keep hf Su.ztr).mono ez) m (((g4.same s1).same s2).mono ez)))
          exact R _ _ k1 ⟨(Same.ext s2).trans (Ext.upd g5 trivial oa), fun b z => .inl (k2 b z)⟩
      · exact False.elim R
    | _ => exact False.elim R
  · simp only [exec] at R
    split at R
    · rename_i ds ex; exact absurd ⟨ds, ex⟩ hds
    · rename_i kvs ex
      obtain ⟨a, g1, g2⟩ := Su.ownAt ex rfl
      refine st_read (c := cfg X O) (B := B) (W := W) (D := D) (T := fun y H1 => gSub (tVar i) (tE (cfg X O) B W G (ev S.F k G)) (fun o i v H Q => rSetL o i v H Q ∨ rSetD (cfg X O) o i v H Q ∨ rSetT (cfg X O) o i v H Q) y σ H1 D.nx) ⟨Su, R⟩ fun r v H1 s1 Su Su1 rv R => ?_
      refine ⟨_, g1, ?_⟩
      refine st_read (c := cfg X O) (B := B) (W := W) (D := D) (T := fun y H2 => rSetL (.ref a) y v H2 (fun H3 => D.nx σ H3) ∨ rSetD (cfg X O) (.ref a) y v H2 (fun H3 => D.nx σ H3) ∨ rSetT (cfg X O) (.ref a) y v H2 fun H3 => D.nx σ H3) ⟨Su1, R.later (Step.of s1 fun a z => .inl z)⟩ fun q w H2 s2 _ Su2 rw' R => ?_
      split at R
      · rename_i hc
        obtain ⟨hf, hk, hl⟩ := hc
        have oa : Owned G σ a := ⟨i, _, ex, g1⟩
        have g3 : OwnAt (cfg X O) (Zof B G σ) H2 (.dct kvs) a := (g2.same s1).same s2
        obtain ⟨gu, gu1, gu2⟩ := g3.some
        unfold keysOk at hk
        rw [Bool.or_eq_true] at hk
        rcases hk with hk | hk
        rotate_left
        · refine .inr (.inr ⟨Zof B G σ, H1, a, kvs, q.2, r.2, q.1, rfl, g3, hk, hl, rw', (rv.mono s2).keep hf Su.ztr, fun us ru => ?_⟩)
          have hx : ∀ b, b ≠ a → H2 b ≠ none → (upd H2 a (.ext (phT X.prog X.w a us))) b = H2 b := fun b nb _ => upd_ne nb
          have ez : Ext (Zof B G σ) H2 (upd H2 a (.ext (phT X.prog X.w a us))) := Ext.upd gu1 gu2 (.inr oa)
          obtain ⟨k1, k2⟩ := Su2.wr (d' := .dct (dPut kvs q.2 r.2)) ex g1 hx (OwnAt.dctT (us := us) upd_same (RepT.mono ez ru))
          exact R _ _ k1 ⟨(Same.ext s2).trans (Ext.upd gu1 gu2 oa), fun b z => .inl (k2 b z)⟩
        refine .inr (.inl ⟨Zof B G σ, H1, a, kvs, q.2, r.2, q.1, rfl, g3, hk, hl, rw', (rv.mono s2).keep hf Su.ztr, fun us ru => ?_⟩)
        have hx : ∀ b, b ≠ a → H2 b ≠ none → (upd H2 a (.ext (phK X.prog X.w (noBl (dPut kvs q.2 r.2)) a us))) b = H2 b := fun b nb _ => upd_ne nb
        have ez : Ext (Zof B G σ) H2 (upd H2 a (.ext (phK X.prog X.w (noBl (dPut kvs q.2 r.2)) a us))) := Ext.upd gu1 gu2 (.inr oa)
        obtain ⟨k1, k2⟩ := Su2.wr (d' := .dct (dPut kvs q.2 r.2)) ex g1 hx (OwnAt.dctK (us := us) upd_same (RepK.mono ez ru))
        exact R _ _ k1 ⟨(Same.ext s2).trans (Ext.upd gu1 gu2 oa), fun b z => .inl (k2 b z)⟩
      · exact False.elim R
    · exact False.elim R
/-! ### together -/
theorem seq_read {c : Cfg} {D : Ends} {G : Ev} {σ : L2.St} {H : Hp} {o : Out} {f : Ev → Out} (h : tS c B W G (match o with | .nx G' => f G' | o => o) D σ H) : tS c B W G o { D with nx := tSx c B W f D } σ H := by
  obtain ⟨Su, R⟩ := h
  refine ⟨Su, ?_⟩
  cases o with
  | nx G' => exact fun σ' H' Su' st => ⟨G', Su', R.later st⟩
  | _ => exact R
theorem st_if (C : CtxOk S X O W sc) {t : IE} {a b : IS} {tx : Expr} {as bs : List Stmt} {pos : Pos} (ht : isTst t = true) (h : okE S t sc tx = true) (ha : PSs X as (tSx (cfg X O) B W (exec S.F n a))) (hb : PSs X bs (tSx (cfg X O) B W (exec S.F n b))) (G : Ev) :
    PS X (.If tx as bs pos) (tS (cfg X O) B W G (exec S.F n (.if_ t a b) G)) := by
  refine (ps_if ((ev_ok (O := O) S t X W sc B G tx C h).2 ht) ha hb).weak fun D σ H hq => ?_
  obtain ⟨Su, R⟩ := hq
  simp only [exec] at R
  show tT _ _ _ _ _ σ H _
  cases e : asB (ev S.F t G) with
  | no => rw [e] at R; exact False.elim R
  | ex x fs => rw [e] at R; exact ⟨Su, fun cls dd H' s e => R cls dd σ H' (Su.same s) (Step.of s fun a z => .inl z) e⟩
  | ok b =>
    rw [e, Rs.out_ok] at R
    refine ⟨Su, fun H1 s1 => ?_⟩
    cases b with
    | true => rw [if_pos rfl] at R ⊢; exact ⟨G, Su.same s1, R.later (Step.of s1 fun a z => .inl z)⟩
    | false => rw [if_neg Bool.false_ne_true] at R ⊢; exact ⟨G, Su.same s1, R.later (Step.of s1 fun a z => .inl z)⟩
theorem st_whl (C : CtxS S X O W sc xs) {t : IE} {b : IS} {tx : Expr} {bs : List Stmt} {pos : Pos} (ht : isTst t = true) (h : okE S t sc tx = true) (hb : PSs X bs (tSx (cfg X O) B W (exec S.F n b))) (G : Ev) :
    PS X (.While tx bs [] pos) (tS (cfg X O) B W G (exec S.F n (.whl t b) G)) := by
  refine (ps_while C.po (PT.any fun G => (ev_ok (O := O) S t X W sc B G tx C.toCtxOk h).2 ht) hb).weak fun D σ H hq => ?_
  obtain ⟨Su, R⟩ := hq
  simp only [exec] at R
  refine ⟨fun m σ' H' => ∃ G', StOk (cfg X O) B G' σ' H' ∧ ResS (cfg X O) B W D G' σ' H' (loopW (fun G' => asB (ev S.F t G')) (fun G' => exec S.F n b G') m G'), ⟨n, G, Su, R⟩, ?_⟩
  rintro m σ1 H1 ⟨G1, Su1, R1⟩
  cases m with
  | zero => exact False.elim R1
  | succ m =>
    refine ⟨G1, ?_⟩
    unfold loopW at R1
    cases e : asB (ev S.F t G1) with
    | no => rw [e] at R1; exact False.elim R1
    | ex x fs => rw [e] at R1; exact ⟨Su1, fun cls dd H' s e => R1 cls dd σ1 H' (Su1.same s) (Step.of s fun a z => .inl z) e⟩
    | ok tb =>
      rw [e, Rs.out_ok] at R1
      refine ⟨Su1, fun H2 s2 => ?_⟩
      have Su2 := Su1.same s2
      have st2 : Step G1 σ1 H1 G1 σ1 H2 := Step.of s2 fun a z => .inl z
      cases tb with
      | false => dsimp only; rw [if_neg Bool.false_ne_true] at R1 ⊢; exact R1 σ1 H2 Su2 st2
      | true =>
        dsimp only
        rw [if_pos rfl] at R1 ⊢
        refine ⟨fun σ' H' => ∃ G', StOk (cfg X O) B G' σ' H' ∧ ResS (cfg X O) B W D G' σ' H' (loopW (fun G' => asB (ev S.F t G')) (fun G' => exec S.F n b G') m G'), fun σ' H' z => ⟨m, Nat.lt_succ_self m, z⟩, G1, Su2, ?_⟩
        cases eb : exec S.F n b G1 with
        | no => rw [eb] at R1; exact R1
        | nx G2 => rw [eb] at R1; exact fun σ' H' Su' st => ⟨G2, Su', R1.later (st2.trans st)⟩
        | ct G2 => rw [eb] at R1; exact fun σ' H' Su' st => ⟨G2, Su', R1.later (st2.trans st)⟩
        | bk G2 => rw [eb] at R1; exact fun σ' H' Su' st => R1 σ' H' Su' (st2.trans st)
        | rt o d => rw [eb] at R1; exact ResS.later (o := .rt o d) R1 st2
        | ex G2 x fs => rw [eb] at R1; exact ResS.later (o := .ex G2 x fs) R1 st2
theorem st_for (C : CtxS S X O W sc xs) {tg : Tg} {it : II} {b : IS} {tgx itx : Expr} {bs : List Stmt} {pos : Pos} (ht : okT S (stF sc) tg tgx = true) (h : okI S it sc tgx itx = true) (hb : PSs X bs (tSx (cfg X O) B W (exec S.F n b))) (G : Ev) :
    PS X (.For tgx itx bs [] pos) (tS (cfg X O) B W G (exec S.F n (.for_ tg it b) G)) := by
  obtain ⟨hI, hs⟩ := evI_ok (O := O) S it X W sc B G tgx itx C.toCtxOk h
  refine (ps_for C.po C.calm hI (pg_tg (S := S) (sl := stF sc) C.N C.nd C.locs C.calm ht) hb (hs _)).weak fun D σ H hq => ?_
  obtain ⟨Su, R⟩ := hq
  simp only [exec] at R
  show tI _ _ _ _ _ σ H _
  refine ⟨Su, ?_⟩
  cases eI : evI S.F it G with
  | no => rw [eI] at R; exact R
  | ex x fs => rw [eI] at R; exact fun cls dd H' s e => R cls dd σ H' (Su.same s) (Step.of s fun a z => .inl z) e
  | ok ds =>
    rw [eI, Rs.out_ok] at R
    intro J H1 s1 ⟨Y, w, hy⟩
    have Su1 := Su.same s1
    have R1 := R.later (Step.of (G' := G) (σ' := σ) s1 fun a z => .inl z)
    refine for_it (g := gTg X.K tg) (tb := tSx (cfg X O) B W (exec S.F n b)) w (fun i σ2 H2 => ∃ G2, StOk (cfg X O) B G2 σ2 H2 ∧ Step G σ H1 G2 σ2 H2 ∧ ResS (cfg X O) B W D G2 σ2 H2 (loopF tg (fun G' => exec S.F n b G') (ds.drop i) G2)) ⟨G, Su1, Step.refl, R1⟩ ?_ ?_ ?_
    · rintro i σ2 H2 hi ⟨G2, Su2, st2, _⟩
      exact st2.ext.less fun b q => .inl (.inr q)
    · rintro i x σ2 H2 H3 hi ⟨G2, Su2, st2, R2⟩ hY
      have ex : Ext (Zw (Zof B G σ) H1) H1 H2 := st2.ext.less fun b q => .inl (.inr q)
      obtain ⟨s3, d, hd, rd⟩ := hy i H2 x H3 (Zof B G2 σ2) hi ex hY (fun b z => z.elim (fun q => .inl (.inl q)) fun q => (st2.own b q).elim (fun q => .inl (.inr q)) .inr) Su2.ztr
      rw [List.drop_eq_getElem_cons hi] at R2
      have ed : ds[i] = d := by rw [List.getElem?_eq_getElem hi] at hd; exact Option.some.inj hd
      rw [ed] at R2
      unfold loopF at R2
      cases eB : bindT tg d G2 with
      | none => rw [eB] at R2; exact False.elim R2
      | some G3 =>
        rw [eB] at R2
        dsimp only at R2
        refine gTg_ok (c := cfg X O) eB rd (Su2.same s3) fun σ3 Su3 lo at3 => ?_
        have st3 : Step G2 σ2 H2 G3 σ3 H3 := Step.of s3 fun a z => .inl (lo a z)
        refine ⟨G3, Su3, ?_⟩
        cases eb : exec S.F n b G3 with
        | no => rw [eb] at R2; exact R2
        | nx G4 => rw [eb] at R2; exact fun σ' H' Su' st => ⟨G4, Su', st2.trans (st3.trans st), R2.later (st3.trans st)⟩
        | ct G4 => rw [eb] at R2; exact fun σ' H' Su' st => ⟨G4, Su', st2.trans (st3.trans st), R2.later (st3.trans st)⟩
        | bk G4 => rw [eb] at R2; exact fun σ' H' Su' st => R2 σ' H' Su' (st3.trans st)
        | rt o d => rw [eb] at R2; exact ResS.later (o := .rt o d) R2 st3
        | ex G4 x fs => rw [eb] at R2; exact ResS.later (o := .ex G4 x fs) R2 st3
    · rintro σ2 H2 ⟨G2, Su2, st2, R2⟩
      rw [List.drop_length] at R2
      exact R2 σ2 H2 Su2 Step.refl
theorem st_rse (C : CtxS S X O W sc xs) {c : Nat} {x : Str} {st : Stmt} (h : (rseN x st && xs.contains (c, x) && isGl sc x && plainN x) = true) (G : Ev) : PS X st (tS (cfg X O) B W G (exec S.F n (.rse c x) G)) := by
  simp only [Bool.and_eq_true, decide_eq_true_eq] at h
  obtain ⟨⟨⟨h1, h2⟩, h3⟩, h4⟩ := h
  obtain ⟨m, j, p, q2, q3, pos, rfl⟩ := rseN_of h1
  obtain ⟨p1, p2, p3⟩ := plainN_of h4
  have E := C.xs c x h2
  obtain ⟨bmB, Bn, newId, initId, F, q⟩ := E.ex
  refine (ps_raise C.calm C.tk (pmk_own F q E.mg E.kp E.rs (C.gl h3) p1)).weak fun D σ H ⟨Su, R⟩ => ?_
  exact R _ none σ H Su Step.refl ⟨rfl, .inl ⟨rfl, rfl⟩⟩
end
theorem StOk.forgot {c : Cfg} {B : Addr → Prop} {G : Ev} {σ : L2.St} {H : Hp} (Su : StOk c B G σ H) : ∀ is : List Nat, StOk c B (forget is G) σ H ∧ ∀ a, Owned (forget is G) σ a → Owned G σ a
  | [] => ⟨Su, fun _ h => h⟩
  | i :: is => by
    obtain ⟨k1, k2⟩ := Su.forgot is
    exact ⟨k1.clr rfl fun _ _ => rfl, fun a h => k2 a (own_clr (fun _ _ => rfl) h)⟩
def isLeaf : IS → Bool
  | .if_ _ _ _ => false | .whl _ _ => false | .for_ _ _ _ => false | .try_ _ _ _ _ _ => false | _ => true
/-- the context of a try's body -/
theorem CtxS.toTry {S : Stat} {X : Cx} {O : OpT} {W W' : WX} {sc : Scope} {xs : List (Nat × Str)} (C : CtxS S X O W sc xs) {pn : List (Addr × Obj)} {xe : Value → Shared → Prop} (tk : Takes (X.tr pn xe) W') (po : PassesOwn (model X.prog X.w) X.A X.env xe) : CtxS S (X.tr pn xe) O W' sc xs :=
  { N := C.N, nd := C.nd, kd := C.kd, sc := C.sc, calm := C.calm, room := C.room, tk := tk, bs := C.bs, fs := C.fs, gs := C.gs, xt := C.xt, po := po, fn := C.fn, xs := fun c x h => let E := C.xs c x h; ⟨E.ex, E.mg, E.kp, E.rs⟩, yt := C.yt, tr := C.tr, stk := C.stk, fra := C.fra, exn := C.exn }
theorem TrOk.names {S : Stat} {X : Cx} {O : OpT} {W : WX} {sc : Scope} {y : Str} {c : Value} (C : CtxB S X O W sc) (hg : isGl sc y = true) (hp : plainN y = true) (hm : X.mg y = some c) : Names X y c := ⟨C.gl hg, (plainN_of hp).1, .inl hm⟩
theorem leaf_ok {O : OpT} (S : Stat) {X : Cx} {W : WX} {sc : Scope} {xs : List (Nat × Str)} {B : Addr → Prop} {n : Nat} (C : CtxS S X O W sc xs) : ∀ (p : IS) (st : Stmt), isLeaf p = true → okSt S xs sc p st = true → ∀ G, PS X st (tS (cfg X O) B W G (exec S.F n p G))
  | .nil, st, _, h, G => by cases st <;> simp [okSt] at h
  | .seq _ _, st, _, h, G => by cases st <;> simp [okSt] at h
  | .set i e, st, _, h, G => by
    cases st <;> first | (simp [okSt] at h; done) | skip
    rename_i ts v pos
    cases ts with
    | nil => simp [okSt] at h
    | cons t ts =>
      cases ts with
      | cons _ _ => cases t <;> simp [okSt] at h
      | nil =>
        cases t <;> first | (simp [okSt] at h; done) | skip
        exact st_set C h G
  | .own i e, st, _, h, G => by
    cases st <;> first | (simp [okSt] at h; done) | skip
    rename_i ts v pos
    cases ts with
    | nil => simp [okSt] at h
    | cons t ts =>
      cases ts with
      | cons _ _ => cases t <;> simp [okSt] at h
      | nil =>
        cases t <;> first | (simp [okSt] at h; done) | skip
        exact st_own C h G
  | .mv i e, st, _, h, G => by
    cases st <;> first | (simp [okSt] at h; done) | skip
    rename_i ts v pos
    cases ts with
    | nil => simp [okSt] at h
    | cons t ts =>
      cases ts with
      | cons _ _ => cases t <;> simp [okSt] at h
      | nil =>
        cases t <;> first | (simp [okSt] at h; done) | skip
        exact st_mv C h G
  | .retd i, st, _, h, G => by
    cases st <;> first | (simp [okSt] at h; done) | skip
    rename_i v pos
    cases v with
    | none => simp [okSt] at h
    | some v =>
      cases v <;> first | (simp [okSt] at h; done) | skip
      exact st_retd C.toCtxOk h G
  | .frz i, st, _, h, G => by cases st <;> simp [okSt] at h
  | .fgt is, st, _, h, G => by cases st <;> simp [okSt] at h
  | .unp is e, st, _, h, G => by
    cases st <;> first | (simp [okSt] at h; done) | skip
    rename_i ts v pos
    cases ts with
    | nil => simp [okSt] at h
    | cons t ts =>
      cases ts with
      | cons _ _ => cases t <;> simp [okSt] at h
      | nil =>
        cases t <;> first | (simp [okSt] at h; done) | skip
        exact st_unp C h G
  | .aug i op e, st, _, h, G => by
    cases st <;> first | (simp [okSt] at h; done) | skip
    rename_i t o v pos
    cases t <;> first | (simp [okSt] at h; done) | skip
    exact st_aug C h G
  | .app i e, st, _, h, G => by
    cases st <;> first | (simp [okSt] at h; done) | skip
    rename_i v pos
    cases v <;> first | (simp [okSt] at h; done) | skip
    rename_i f as kws cpos
    cases f <;> first | (simp [okSt] at h; done) | skip
    rename_i o y apos
    cases o <;> first | (simp [okSt] at h; done) | skip
    cases as with
    | nil => simp [okSt] at h
    | cons v as =>
      cases as with
      | cons _ _ => simp [okSt] at h
      | nil =>
        cases kws with
        | cons _ _ => simp [okSt] at h
        | nil => exact st_app C.toCtxOk h G
  | .ins i k e, st, _, h, G => by
    cases st <;> first | (simp [okSt] at h; done) | skip
    rename_i v pos
    cases v <;> first | (simp [okSt] at h; done) | skip
    rename_i f as kws cpos
    cases f <;> first | (simp [okSt] at h; done) | skip
    rename_i o y apos
    cases o <;> first | (simp [okSt] at h; done) | skip
    cases as with
    | nil => simp [okSt] at h
    | cons kx as =>
      cases as with
      | nil => simp [okSt] at h
      | cons v as =>
        cases as with
        | cons _ _ => simp [okSt] at h
        | nil =>
          cases kws with
          | cons _ _ => simp [okSt] at h
          | nil => exact st_ins C.toCtxOk h G
  | .put i k e, st, _, h, G => by
    cases st <;> first | (simp [okSt] at h; done) | skip
    rename_i ts v pos
    cases ts with
    | nil => simp [okSt] at h
    | cons t ts =>
      cases ts with
      | cons _ _ =>
        cases t <;> first | exact absurd h Bool.false_ne_true | skip
        all_goals (rename_i o _ _; cases o <;> exact absurd h Bool.false_ne_true)
      | nil =>
        cases t <;> first | (simp [okSt] at h; done) | skip
        rename_i o kx p2
        cases o <;> first | (simp [okSt] at h; done) | skip
        exact st_put C.toCtxOk h G
  | .do_ e, st, _, h, G => by
    cases st <;> first | (simp [okSt] at h; done) | skip
    exact st_do C.toCtxOk h G
  | .ret e, st, _, h, G => by
    cases st <;> first | (simp [okSt] at h; done) | skip
    rename_i v pos
    cases v with
    | none => simp [okSt] at h
    | some v => exact st_ret C.toCtxOk h G
  | .retp i, st, _, h, G => by
    cases st <;> first | (simp [okSt] at h; done) | skip
    rename_i v pos
    cases v with
    | none => simp [okSt] at h
    | some v =>
      cases v <;> first | (simp [okSt] at h; done) | skip
      exact st_retp C.toCtxOk h G
  | .retN, st, _, h, G => by
    cases st <;> first | (simp [okSt] at h; done) | skip
    rename_i v pos
    cases v with
    | some _ => simp [okSt] at h
    | none => exact ps_retN.weak fun D σ H ⟨Su, R⟩ => R .non H (Ext.refl _ _) Rep.non
  | .brk, st, _, h, G => by
    cases st <;> first | (simp [okSt] at h; done) | skip
    exact ps_break.weak fun D σ H ⟨Su, R⟩ => R σ H Su Step.refl
  | .cnt, st, _, h, G => by
    cases st <;> first | (simp [okSt] at h; done) | skip
    exact ps_continue.weak fun D σ H ⟨Su, R⟩ => R σ H Su Step.refl
  | .pass, st, _, h, G => by
    cases st <;> first | (simp [okSt] at h; done) | skip
    · rename_i v pos
      cases v <;> first | (simp [okSt] at h; done) | skip
      rename_i c j p
      cases c <;> first | (simp [okSt] at h; done) | skip
      exact ps_doc.weak fun D σ H ⟨Su, R⟩ => R σ H Su Step.refl
    · exact ps_pass.weak fun D σ H ⟨Su, R⟩ => R σ H Su Step.refl
  | .nev, st, _, h, G => PS.never fun σ H D q => q.2
  | .rse c x, st, _, h, G => st_rse C h G
  | .xs t as, st, _, h, G => by
    have h : (S.yts.contains t && (match ytDec t S sc st with | some es => okA S as sc es | none => false)) = true := by cases st <;> exact h
    rw [Bool.and_eq_true] at h
    obtain ⟨h1, h2⟩ := h
    split at h2
    · rename_i es he
      by_cases hp : (ytPo S.F t as G && ytPre t G) = true
      · have e : exec S.F n (.xs t as) G = (evs S.F as G).out G (ytD S.F t G) := by simp only [exec, hp, if_true]
        rw [e]
        rw [Bool.and_eq_true] at hp
        exact C.yt t h1 X O W sc B G st es as rfl C.toCtxB he hp.2 hp.1 fun G' => evs_parts S as X W sc B G' es C.toCtxOk h2
      · have e : exec S.F n (.xs t as) G = .no := by simp only [exec, hp, if_false, Bool.false_eq_true]
        rw [e]
        exact PS.never fun σ H D q => q.2
    · cases h2
  | .try_ _ _ _ _ _, _, z, _, _ => by cases z
  | .if_ _ _ _, _, z, _, _ => by cases z
  | .whl _ _, _, z, _, _ => by cases z
  | .for_ _ _ _, _, z, _, _ => by cases z
theorem PSs.lenN {X : Cx} {b : List Stmt} {t : TS} (h : PSs X b t) : PSs X b (fun D σ H => σ.length = X.N.length → t D σ H) := ⟨fun pins s σ H D I q => h.run pins s σ H D I (q I.len)⟩
theorem nLocal {sc : Scope} {env : Env} {x : Str} (h : sc.names.lookup x = some .local) (e : env.scope = sc) : env.kindOf x = some .local := by
  subst e; exact h
theorem st_try_as {O : OpT} {S : Stat} {X : Cx} {W : WX} {sc : Scope} {xs : List (Nat × Str)} {B : Addr → Prop} {n : Nat} (C : CtxS S X O W sc xs) {b : IS} {y nm m : Str} {ys ns : List Nat} {i j : Nat} {body : List Stmt} {p1 p2 p3 p4 p5 p6 : Pos}
    (h3 : S.trs.contains (y, ys, ns) = true) (h4 : isGl sc y = true) (h5 : plainN y = true) (h6 : S.N[i]? = some nm) (h7 : sc.names.lookup nm = some .local) (h9 : plainN nm = true) (h10 : okN S sc j m = true)
    (hb : ∀ (W' : WX) (pn : List (Addr × Obj)) (xe : Value → Shared → Prop), Takes (X.tr pn xe) W' → PassesOwn (model X.prog X.w) X.A X.env xe → PSs (X.tr pn xe) body (tSx (cfg X O) B W' (exec S.F n b))) (G : Ev) :
    PS X (.Try body [.ExceptHandler (some (.Name y p1)) (some nm) [.Assign [.Name m p2] (.Name nm p3) p4] p5] [] [] p6) (tS (cfg X O) B W G (exec S.F n (.try_ b y ys ns (.as i j)) G)) := by
  obtain ⟨⟨c, hc, hy, hn⟩, hop⟩ := C.tr y ys ns h3
  have hi : X.N[i]? = some nm := by rw [C.N]; exact h6
  obtain ⟨hj, hl⟩ := okN_of C h10
  have hloc := nLocal h7 C.sc
  obtain ⟨q1, q2, _⟩ := plainN_of h9
  have hsu : ∀ (a : Addr) (oe : Obj) (cls : Value) (d : Option Addr) (pn : List (Addr × Obj)), Zc cls d oe → (∃ vs, oe.data = .fields vs) → PSs (X.suite a ((a, oe) :: pn)) [.Assign [.Name m p2] (.Name nm p3) p4] (fun D σ H => σ.length = X.N.length → σ[i]? = some (some (.ref a)) ∧ D.nx (σ.set j (some (.ref a))) H) := fun a oe cls d pn _ _ => by
    refine PSs.lenN ((pss_one (ps_set (X := X.suite a ((a, oe) :: pn)) C.nd hj hl (pe_var (i := i) hi (.inl hloc) q1 q2) (by rfl) (C.fnL hl))).weak fun D σ H ⟨e1, e2⟩ => ⟨_, e1, e2⟩)
  refine (try_keep (tb := fun W' => tSx (cfg X O) B W' (exec S.F n b)) (Wout := W) C.exn C.stk C.fra C.nd hi hloc (TrOk.names C.toCtxB h4 h5 hc) C.tk hb hsu).weak fun D σ H ⟨Su, R⟩ => ⟨G, Su, ?_⟩
  simp only [exec] at R
  cases e : exec S.F n b G with
  | no => rw [e] at R; exact R
  | nx G' => rw [e] at R; exact R
  | ct G' => rw [e] at R; exact R
  | bk G' => rw [e] at R; exact R
  | rt o d => rw [e] at R; exact R
  | ex G' k fs =>
    rw [e] at R
    unfold tryO at R
    dsimp only at R
    intro cls dd σ' H' Su' st' ex
    obtain ⟨rfl, ex⟩ := ex
    by_cases ky : ys.contains k = true
    · rw [if_pos ky] at R
      refine ⟨true, hy k ky, fun _ a na hlen => ⟨?_, ?_⟩, fun z => by cases z⟩
      · rw [List.length_set] at hlen
        have hlt : i < σ'.length := by rw [hlen]; exact (List.getElem?_eq_some_iff.mp hi).1
        rw [List.getElem?_set_self hlt]
      · have nz : ¬ Zof B G' σ' a := fun z => Su'.ztr a z na
        have sm : Same H' (upd H' a (.ext (errAt a (.ref (O.ecls k)) dd))) := Same.new na
        have S1 := Su'.same sm
        have er : ∃ vs, Reps (cfg X O) (Zof B G' σ') (upd H' a (.ext (errAt a (.ref (O.ecls k)) dd))) fs vs ∧ ((vs = [] ∧ dd = none) ∨ ∃ d, dd = some d ∧ ¬ Zof B G' σ' d ∧ upd H' a (.ext (errAt a (.ref (O.ecls k)) dd)) d = some (.xd ((O.enames k).zip vs))) := by
          rcases ex with ⟨e1, e2⟩ | ⟨d, vs, e1, e2, e3, e4⟩
          · subst e1; exact ⟨[], .nil, .inl ⟨rfl, e2⟩⟩
          · exact ⟨vs, e4.same sm, .inr ⟨d, e1, e2, sm.keep _ _ e3 trivial⟩⟩
        obtain ⟨vs, er, eo⟩ := er
        have rp : Rep (cfg X O) (Zof B G' σ') (upd H' a (.ext (errAt a (.ref (O.ecls k)) dd))) (.opq k fs) (.ref a) := .opq (hop k ky _ _ a dd vs nz upd_same eo) er
        have S2 := S1.set (i := i) rp
        have o2 : ∀ b', Owned (G'.set i (some (false, .opq k fs))) (σ'.set i (some (.ref a))) b' → Owned G' σ' b' := fun b' z => own_set z
        have rp2 : Rep (cfg X O) (Zof B (G'.set i (some (false, .opq k fs))) (σ'.set i (some (.ref a)))) (upd H' a (.ext (errAt a (.ref (O.ecls k)) dd))) (.opq k fs) (.ref a) := rp.less fun b' z => z.imp id (o2 b')
        have S3 := S2.set (i := j) rp2
        have o3 : ∀ b', Owned ((G'.set i (some (false, .opq k fs))).set j (some (false, .opq k fs))) ((σ'.set i (some (.ref a))).set j (some (.ref a))) b' → Owned G' σ' b' := fun b' z => o2 b' (own_set z)
        have S4 := S3.clr (i := i) (σ' := ((σ'.set i (some (.ref a))).set j (some (.ref a))).set i none) (by simp) (fun l hl => by rw [List.getElem?_set_ne (Ne.symm hl)])
        exact R _ _ S4 (st'.trans (Step.of sm fun b' z => .inl (o3 b' (own_clr (fun l hl => by rw [List.getElem?_set_ne (Ne.symm hl)]) z))))
    · rw [if_neg ky] at R
      by_cases kn : ns.contains k = true
      · rw [if_pos kn] at R
        exact ⟨false, hn k kn, fun z => (by cases z), fun _ => R _ dd σ' H' Su' st' ⟨rfl, ex⟩⟩
      · rw [if_neg kn] at R; exact False.elim R
theorem st_try_cst {O : OpT} {S : Stat} {X : Cx} {W : WX} {sc : Scope} {xs : List (Nat × Str)} {B : Addr → Prop} {n : Nat} (C : CtxS S X O W sc xs) {b : IS} {y m : Str} {ys ns : List Nat} {j : Nat} {d : RA.D} {v : Expr} {body : List Stmt} {p1 p2 p4 p5 p6 : Pos}
    (h3 : S.trs.contains (y, ys, ns) = true) (h4 : isGl sc y = true) (h5 : plainN y = true) (h6 : okCst d v = true) (h7 : okN S sc j m = true)
    (hb : ∀ (W' : WX) (pn : List (Addr × Obj)) (xe : Value → Shared → Prop), Takes (X.tr pn xe) W' → PassesOwn (model X.prog X.w) X.A X.env xe → PSs (X.tr pn xe) body (tSx (cfg X O) B W' (exec S.F n b))) (G : Ev) :
    PS X (.Try body [.ExceptHandler (some (.Name y p1)) none [.Assign [.Name m p2] v p4] p5] [] [] p6) (tS (cfg X O) B W G (exec S.F n (.try_ b y ys ns (.cst j d)) G)) := by
  obtain ⟨⟨c, hc, hy, hn⟩, hop⟩ := C.tr y ys ns h3
  obtain ⟨hj, hl⟩ := okN_of C h7
  unfold okCst at h6
  split at h6
  rotate_left
  · cases h6
  rename_i cst kk pp
  have hv : ∃ w : V, (∀ c Z H, Rep c Z H d w) ∧ ∀ X' : Cx, PE X' (.Constant cst kk pp) (tC w) := by
    unfold okK at h6
    split at h6
    · exact ⟨.non, fun _ _ _ => .non, fun _ => pe_non⟩
    · have e := eq_of_beq h6; subst e; exact ⟨.bl _, fun _ _ _ => .bl _, fun _ => pe_bl⟩
    · have e := of_decide_eq_true h6; subst e; exact ⟨.int _, fun _ _ _ => .int _, fun _ => pe_int⟩
    · have e := of_decide_eq_true h6; subst e; exact ⟨.str _, fun _ _ _ => .str _, fun _ => pe_str⟩
    · cases h6
  obtain ⟨w, hr, hp⟩ := hv
  have hsu : ∀ (a : Addr) (oe : Obj) (cls : Value) (dd : Option Addr) (pn : List (Addr × Obj)), Zc cls dd oe → (∃ vs, oe.data = .fields vs) → PSs (X.suite a ((a, oe) :: pn)) [.Assign [.Name m p2] (.Constant cst kk pp) p4] (fun D σ H => D.nx (σ.set j (some w)) H) := fun a oe cls dd pn _ _ => by
    refine (pss_one (ps_set (X := X.suite a ((a, oe) :: pn)) C.nd hj hl (hp _) (by rfl) (C.fnL hl))).weak fun D σ H e1 => e1
  refine (ps_try_only (tb := fun W' => tSx (cfg X O) B W' (exec S.F n b)) (Wout := W) C.stk C.fra (TrOk.names C.toCtxB h4 h5 hc) C.tk hb hsu).weak fun D σ H ⟨Su, R⟩ => ⟨G, Su, ?_⟩
  simp only [exec] at R
  cases e : exec S.F n b G with
  | no => rw [e] at R; exact R
  | nx G' => rw [e] at R; exact R
  | ct G' => rw [e] at R; exact R
  | bk G' => rw [e] at R; exact R
  | rt o d => rw [e] at R; exact R
  | ex G' k fs =>
    rw [e] at R
    unfold tryO at R
    dsimp only at R
    intro cls dd σ' H' Su' st' ex
    obtain ⟨rfl, ex⟩ := ex
    by_cases ky : ys.contains k = true
    · rw [if_pos ky] at R
      exact ⟨true, hy k ky, fun _ a na => R _ _ (Su'.set (hr _ _ _)) (st'.trans (Step.of (Same.refl _) fun b' z => .inl (own_set z))), fun z => by cases z⟩
    · rw [if_neg ky] at R
      by_cases kn : ns.contains k = true
      · rw [if_pos kn] at R
        exact ⟨false, hn k kn, fun z => (by cases z), fun _ => R _ dd σ' H' Su' st' ⟨rfl, ex⟩⟩
      · rw [if_neg kn] at R; exact False.elim R
mutual
theorem st_ok {O : OpT} (S : Stat) {X : Cx} {W : WX} {sc : Scope} {xs : List (Nat × Str)} {B : Addr → Prop} {n : Nat} (C : CtxS S X O W sc xs) : ∀ (p : IS) (st : Stmt), okSt S xs sc p st = true → ∀ G, PS X st (tS (cfg X O) B W G (exec S.F n p G))
  | .if_ t a b, st, h, G => by
    cases st <;> first | (simp [okSt] at h; done) | skip
    rename_i tx as bs pos
    have h : (isTst t && okE S t sc tx && okSts S xs sc a as && okSts S xs sc b bs) = true := h
    simp only [Bool.and_eq_true] at h
    exact st_if C.toCtxOk h.1.1.1 h.1.1.2 (sts_ok S C a as h.1.2) (sts_ok S C b bs h.2) G
  | .whl t b, st, h, G => by
    cases st <;> first | (simp [okSt] at h; done) | skip
    rename_i tx bs os pos
    cases os with
    | cons _ _ => simp [okSt] at h
    | nil =>
      have h : (isTst t && okE S t sc tx && okSts S xs sc b bs) = true := h
      simp only [Bool.and_eq_true] at h
      exact st_whl C h.1.1 h.1.2 (sts_ok S C b bs h.2) G
  | .for_ tg it b, st, h, G => by
    cases st <;> first | (simp [okSt] at h; done) | skip
    rename_i tgx itx bs os pos
    cases os with
    | cons _ _ => simp [okSt] at h
    | nil =>
      have h : (okT S (stF sc) tg tgx && okI S it sc tgx itx && okSts S xs sc b bs) = true := h
      simp only [Bool.and_eq_true] at h
      exact st_for C h.1.1 h.1.2 (sts_ok S C b bs h.2) G
  | .nil, st, h, G => leaf_ok S C (.nil) st rfl h G
  | .seq a b, st, h, G => leaf_ok S C (.seq a b) st rfl h G
  | .set a b, st, h, G => leaf_ok S C (.set a b) st rfl h G
  | .own a b, st, h, G => leaf_ok S C (.own a b) st rfl h G
  | .frz a, st, h, G => leaf_ok S C (.frz a) st rfl h G
  | .fgt a, st, h, G => leaf_ok S C (.fgt a) st rfl h G
  | .unp a b, st, h, G => leaf_ok S C (.unp a b) st rfl h G
  | .aug a b c, st, h, G => leaf_ok S C (.aug a b c) st rfl h G
  | .app a b, st, h, G => leaf_ok S C (.app a b) st rfl h G
  | .put a b c, st, h, G => leaf_ok S C (.put a b c) st rfl h G
  | .ins a b c, st, h, G => leaf_ok S C (.ins a b c) st rfl h G
  | .do_ a, st, h, G => leaf_ok S C (.do_ a) st rfl h G
  | .ret a, st, h, G => leaf_ok S C (.ret a) st rfl h G
  | .retp a, st, h, G => leaf_ok S C (.retp a) st rfl h G
  | .mv a b, st, h, G => leaf_ok S C (.mv a b) st rfl h G
  | .retd a, st, h, G => leaf_ok S C (.retd a) st rfl h G
  | .retN, st, h, G => leaf_ok S C (.retN) st rfl h G
  | .brk, st, h, G => leaf_ok S C (.brk) st rfl h G
  | .cnt, st, h, G => leaf_ok S C (.cnt) st rfl h G
  | .pass, st, h, G => leaf_ok S C (.pass) st rfl h G
  | .nev, st, h, G => leaf_ok S C (.nev) st rfl h G
  | .rse a b, st, h, G => leaf_ok S C (.rse a b) st rfl h G
  | .xs a b, st, h, G => leaf_ok S C (.xs a b) st rfl h G
  | .try_ b y ys ns hd, st, h, G => by
    cases hd with
    | as i j =>
      simp only [okSt] at h
      split at h
      rotate_left
      · cases h
      rename_i body y' nn m n' e
      obtain ⟨p1, p2, p3, p4, p5, p6, rfl⟩ := tryAs_of e
      simp only [Bool.and_eq_true, decide_eq_true_eq] at h
      obtain ⟨⟨⟨⟨⟨⟨⟨⟨⟨h1, h2⟩, h3⟩, h4⟩, h5⟩, h6⟩, h7⟩, h8⟩, h9⟩, h10⟩ := h
      subst h2 h8
      exact st_try_as C h3 h4 h5 h6 h7 h9 h10 (fun W' pn xe tk po => sts_ok (O := O) (B := B) (n := n) S (C.toTry tk po) b body h1) G
    | cst j d =>
      simp only [okSt] at h
      split at h
      rotate_left
      · cases h
      rename_i body y' m v e
      obtain ⟨p1, p2, p4, p5, p6, rfl⟩ := tryCst_of e
      simp only [Bool.and_eq_true, decide_eq_true_eq] at h
      obtain ⟨⟨⟨⟨⟨⟨h1, h2⟩, h3⟩, h4⟩, h5⟩, h6⟩, h7⟩ := h
      subst h2
      exact st_try_cst C h3 h4 h5 h6 h7 (fun W' pn xe tk po => sts_ok (O := O) (B := B) (n := n) S (C.toTry tk po) b body h1) G
theorem sts_ok {O : OpT} (S : Stat) {X : Cx} {W : WX} {sc : Scope} {xs : List (Nat × Str)} {B : Addr → Prop} {n : Nat} (C : CtxS S X O W sc xs) : ∀ (p : IS) (sts : List Stmt), okSts S xs sc p sts = true → PSs X sts (tSx (cfg X O) B W (exec S.F n p))
  | .nil, sts, h => by
    cases sts with
    | cons _ _ => simp [okSts] at h
    | nil => exact pss_nil.weak fun D σ H ⟨G, Su, R⟩ => R σ H Su Step.refl
  | .seq s r, sts, h => by
    by_cases hz : s = .nev
    · subst hz
      exact PSs.never fun σ H D ⟨G, Su, R⟩ => R
    · cases s
      case frz i =>
        have ih := sts_ok (O := O) (B := B) (n := n) S C r sts h
        refine ih.weak fun D σ H ⟨G, Su, R⟩ => ?_
        simp only [exec] at R
        rcases hG : G[i]? with _ | (_ | ⟨(_ | _), d⟩)
        · rw [hG] at R; exact False.elim R
        · rw [hG] at R; exact False.elim R
        · rw [hG] at R; exact False.elim R
        · rw [hG] at R
          by_cases nl : isLn d = true
          · simp only [nl, if_true] at R
            exact False.elim R
          simp only [nl, if_false, Bool.false_eq_true] at R
          obtain ⟨k1, k2⟩ := Su.frz hG (by simpa using nl)
          exact ⟨_, k1, R.later (Step.of (Same.refl H) fun a z => .inl (k2 a z))⟩
      case fgt is =>
        have ih := sts_ok (O := O) (B := B) (n := n) S C r sts h
        refine ih.weak fun D σ H ⟨G, Su, R⟩ => ?_
        simp only [exec] at R
        obtain ⟨k1, k2⟩ := Su.forgot is
        exact ⟨_, k1, R.later (Step.of (Same.refl H) fun a z => .inl (k2 a z))⟩
      case nev => exact absurd rfl hz
      all_goals
        cases sts with
        | nil => simp [okSts] at h
        | cons st sts =>
          have h' := h
          simp only [okSts, Bool.and_eq_true] at h'
          exact (pss_cons (PS.any fun G => st_ok (O := O) (B := B) (n := n) S C _ st h'.1 G) (sts_ok (O := O) (B := B) (n := n) S C r sts h'.2)).weak fun D σ H ⟨G, hq⟩ => ⟨G, seq_read hq⟩
end
end RA
/-! RA13: a def of the text and its mirror; the law's end. -/
namespace RA
open PySem PySem.Spec PyProof.Rows L2
variable [Tabs] [LentT]
theorem start_get {N : List Str} {vs : List V} {ds : List RA.D} (hl : ds.length = vs.length) {c : Cfg} {B : Addr → Prop} {H : Hp} (r : Reps c B H ds vs) (hn : ds.length ≤ N.length) (hB : ∀ a, B a → H a ≠ none) (hT : TabsOk H) : StOk c B (startG N.length ds) (L2.start N vs) H ∧ ∀ a, ¬ Owned (startG N.length ds) (L2.start N vs) a := by
  have nt : ∀ (i : Nat) (d : RA.D), (startG N.length ds)[i]? ≠ some (some (true, d)) := fun i d e => by
    unfold startG at e
    by_cases hi : i < (ds.map (fun d => some (false, d))).length
    · rw [List.getElem?_append_left hi, List.getElem?_map] at e
      cases q : ds[i]? with
      | none => rw [q] at e; cases e
      | some d' => rw [q] at e; cases e
    · rw [List.getElem?_append_right (by omega), List.getElem?_replicate] at e
      split at e <;> cases e
  have no : ∀ a, ¬ Owned (startG N.length ds) (L2.start N vs) a := fun a ⟨i, d, e, _⟩ => nt i d e
  refine ⟨⟨?_, hB, hT, fun a h => absurd h (no a), fun i j a ⟨d, e, _⟩ => absurd e (nt i d), fun i d e => ?_, fun i d e => absurd e (nt i d)⟩, no⟩
  · unfold startG L2.start
    rw [List.length_append, List.length_append, List.length_map, List.length_map, List.length_replicate, List.length_replicate, hl]
  · unfold startG at e
    by_cases hi : i < ds.length
    · rw [List.getElem?_append_left (by rw [List.length_map]; exact hi), List.getElem?_map, List.getElem?_eq_getElem hi] at e
      cases e
      obtain ⟨v, h1, h2⟩ := r.get (List.getElem?_eq_getElem hi)
      refine ⟨v, ?_, h2.less fun b z => z.elim id fun z => absurd z (no b)⟩
      unfold L2.start
      rw [List.getElem?_append_left (by rw [List.length_map, ← hl]; exact hi), List.getElem?_map, h1]; rfl
    · rw [List.getElem?_append_right (by rw [List.length_map]; omega), List.getElem?_replicate] at e
      split at e <;> cases e
section
variable {O : OpT} {P : Program} {w : World} {K : PySem.W.Frag} {mg : Str → Option Value} {base : Heap}
/-- a def by its body and its mirror -/
theorem fnok_of {S : Stat} {xs : List (Nat × Str)} {n : Nat} {m : List RA.D → Rs (Bool × RA.D)} {qual : Str} {st : Stmt} {f : Addr} {fd : FuncData} {ps : List Str} {ir : IS} (F : Fun K (S.nm n) qual st f fd) (Sc : FnScope S.N ps (defScope st))
    (ok : okSts S xs (defScope st) ir (defBody st) = true) (hbs : ∀ x, S.bs.contains x = true → mg x = none)
    (hfs : ∀ n, S.us.contains n = true → FOk { toOpT := O, P := P, w := w, K := K, mg := mg, base := base } S.nm S.k n (S.F n))
    (hgs : ∀ n, S.gs.contains n = true → GlOk { toOpT := O, P := P, w := w, K := K, mg := mg, base := base } S.nm n (S.F n []))
    (hxs : ∀ (X : Cx), X.K = K → X.mg = mg → ∀ c x, xs.contains (c, x) = true → ExOk X O c x)
    (hxt : ∀ t, S.xts.contains t = true → XtOk S { toOpT := O, P := P, w := w, K := K, mg := mg, base := base } t) (hyt : ∀ t, S.yts.contains t = true → YtOk S { toOpT := O, P := P, w := w, K := K, mg := mg, base := base } t) (htr : ∀ y ys ns, S.trs.contains (y, ys, ns) = true → TrOk K mg O y ys ns)
    (hrun : ∀ ds, m ds ≠ .no → ds.length = ps.length ∧ ∃ fuel, run S.F fuel S.N.length ir ds = m ds) : FnOk P w K mg base (L2.CX P w) (S.k + 1) f fd ps (spOf { toOpT := O, P := P, w := w, K := K, mg := mg, base := base } m) := by
  refine F.okX Sc (fun vs H Q E h => ?_) fun cdv A outer s H vs Q E hr hsp => ?_
  · obtain ⟨B, ds, hB, hT, hr, h⟩ := h
    have hne : m ds ≠ .no := fun z => by rw [z] at h; exact h
    rw [← hr.length]; exact (hrun ds hne).1
  · obtain ⟨B, ds, hB, hT, hrs, h⟩ := hsp
    have hne : m ds ≠ .no := fun z => by rw [z] at h; exact h
    obtain ⟨hl, fuel, hrun⟩ := hrun ds hne
    have hpl : ps.length ≤ S.N.length := by have := congrArg List.length Sc.pre; rw [List.length_take] at this; omega
    let X := cxOf (L2.CX P w) P w K mg base S.N qual (defScope st) f cdv A outer s H E
    have C : CtxS S X O (fun cls d _ H' => E cls d H') (defScope st) xs :=
      { N := rfl, nd := Sc.nd, kd := Sc.kind, sc := rfl, calm := rfl, room := hr, tk := takes_of rfl rfl rfl rfl, bs := hbs, fs := hfs, gs := hgs, po := passes_of rfl, fn := fun _ _ => rfl, xs := hxs X rfl rfl, xt := hxt, yt := hyt, tr := htr, stk := rfl, fra := rfl, exn := rfl }
    refine ⟨_, sts_ok (O := O) (B := B) (n := fuel) S C ir _ ok, startG S.N.length ds, ?_⟩
    obtain ⟨Su, no⟩ := start_get (N := S.N) (c := cfg X O) (B := B) (H := H) hrs.length hrs (by rw [hl]; exact hpl) hB hT
    refine ⟨Su, ?_⟩
    have same : ∀ {H'}, Ext (Owned (startG S.N.length ds) (L2.start S.N vs)) H H' → Same H H' := fun e => e.same no
    unfold run at hrun
    cases e : exec S.F fuel ir (startG S.N.length ds) with
    | no => rw [e] at hrun; exact absurd hrun.symm hne
    | bk G' => rw [e] at hrun; exact absurd hrun.symm hne
    | ct G' => rw [e] at hrun; exact absurd hrun.symm hne
    | nx G' =>
      rw [e] at hrun
      rw [← hrun] at h
      exact fun σ' H' Su' st' => h .non H' (same st'.ext) Rep.non
    | rt o d =>
      rw [e] at hrun
      rw [← hrun] at h
      refine fun v H' ex rv => h v H' (same ex) ?_
      cases o with
      | true =>
        obtain ⟨a, e1, e2, e3⟩ := rv
        exact ⟨a, e1, e2.elim (fun z => absurd z (no a)) id, e3⟩
      | false => exact rv
    | ex G' x fs =>
      rw [e] at hrun
      rw [← hrun] at h
      refine fun cls dd σ' H' Su' st' e' => h cls dd H' (same st'.ext) ?_
      obtain ⟨e1, e2⟩ := e'
      exact ⟨e1, e2.imp id fun ⟨d, vs, e3, nb, e4, e5⟩ => ⟨d, vs, e3, fun z => nb (.inl z), e4, e5.less fun b z => .inl z⟩⟩
/-- the law: every script of at most 63 ints is answered with True -/
def spLaw (K : PySem.W.Frag) : Sp := fun vs H Q _ => ∃ (a : Addr) (ns : List Int), vs = [.ref a] ∧ SqL K H a (ns.map V.int) ∧ ns.length ≤ 63 ∧ ∀ H', Q (.bl true) H'
theorem fok_mk {S : Stat} {n : Nat} {m : List RA.D → Rs (Bool × RA.D)} {f : Addr} {fd : FuncData} {ps : List Str} (h : FnOk P w K mg base (L2.CX P w) (S.k + 1) f fd ps (spOf { toOpT := O, P := P, w := w, K := K, mg := mg, base := base } m)) (k : PySem.W.keepIn K (.ref f) = true) (b : Binds K fd ps []) (hm : mg (S.nm n) = some (.ref f)) :
    FOk { toOpT := O, P := P, w := w, K := K, mg := mg, base := base } S.nm (S.k + 1) n m := ⟨f, fd, ps, hm, k, b, h⟩
end
theorem cx_end {P : Program} {w : World} {H : Hp} {s : Shared} {e : Value} {s' : Shared} (h : L2.CX P w [] H s (fun _ _ _ => False) e s') : False := by
  obtain ⟨_, _, _, _, _, _, _, _, _, _, _, _, z⟩ := h
  exact z
/-! facts, one after another -/
section
variable {O : OpT} {mg : Str → Option Value} {K : PySem.W.Frag} {c : Cfg} {nm : Nat → Str} {k : Nat} {f : FT}
theorem bs_nil : ∀ x : Str, ([] : List Str).contains x = true → mg x = none := fun x h => by simp at h
theorem bs_cons {y : Str} {l : List Str} (h : mg y = none) (r : ∀ x : Str, l.contains x = true → mg x = none) : ∀ x : Str, (y :: l).contains x = true → mg x = none := fun x hx => by
  rw [List.contains_cons, Bool.or_eq_true] at hx
  rcases hx with z | z
  · rw [eq_of_beq z]; exact h
  · exact r x z
theorem us_nil : ∀ n : Nat, ([] : List Nat).contains n = true → FOk c nm k n (f n) := fun x h => by simp at h
theorem us_cons {m : Nat} {l : List Nat} (h : FOk c nm k m (f m)) (r : ∀ n : Nat, l.contains n = true → FOk c nm k n (f n)) : ∀ n : Nat, (m :: l).contains n = true → FOk c nm k n (f n) := fun x hx => by
  rw [List.contains_cons, Bool.or_eq_true] at hx
  rcases hx with z | z
  · rw [eq_of_beq z]; exact h
  · exact r x z
theorem gs_nil : ∀ n : Nat, ([] : List Nat).contains n = true → GlOk c nm n (f n []) := fun x h => by simp at h
theorem gs_cons {m : Nat} {l : List Nat} (h : GlOk c nm m (f m [])) (r : ∀ n : Nat, l.contains n = true → GlOk c nm n (f n [])) : ∀ n : Nat, (m :: l).contains n = true → GlOk c nm n (f n []) := fun x hx => by
  rw [List.contains_cons, Bool.or_eq_true] at hx
  rcases hx with z | z
  · rw [eq_of_beq z]; exact h
  · exact r x z
theorem ts_nil {S : Stat} : ∀ t, ([] : List XT).contains t = true → XtOk S c t := fun t h => by simp at h
theorem ts_cons {S : Stat} {u : XT} {l : List XT} (h : XtOk S c u) (r : ∀ t, l.contains t = true → XtOk S c t) : ∀ t, (u :: l).contains t = true → XtOk S c t := fun t ht => by
  rw [List.contains_cons, Bool.or_eq_true] at ht
  rcases ht with z | z
  · rw [eq_of_beq z]; exact h
  · exact r t z
theorem ys_nil {S : Stat} : ∀ t, ([] : List YT).contains t = true → YtOk S c t := fun t h => by simp at h
theorem ys_cons {S : Stat} {u : YT} {l : List YT} (h : YtOk S c u) (r : ∀ t, l.contains t = true → YtOk S c t) : ∀ t, (u :: l).contains t = true → YtOk S c t := fun t ht => by
  rw [List.contains_cons, Bool.or_eq_true] at ht
  rcases ht with z | z
  · rw [eq_of_beq z]; exact h
  · exact r t z
theorem tr_nil : ∀ y ys ns, ([] : List (Str × List Nat × List Nat)).contains (y, ys, ns) = true → TrOk K mg O y ys ns := fun y ys ns h => by simp at h
theorem tr_cons {y0 : Str} {ys0 ns0 : List Nat} {l : List (Str × List Nat × List Nat)} (h : TrOk K mg O y0 ys0 ns0) (r : ∀ y ys ns, l.contains (y, ys, ns) = true → TrOk K mg O y ys ns) : ∀ y ys ns, ((y0, ys0, ns0) :: l).contains (y, ys, ns) = true → TrOk K mg O y ys ns := fun y ys ns hx => by
  rw [List.contains_cons, Bool.or_eq_true] at hx
  rcases hx with z | z
  · have e := eq_of_beq z
    cases e; exact h
  · exact r y ys ns z
theorem xs_nil : ∀ X : Cx, X.K = K → X.mg = mg → ∀ n x, ([] : List (Nat × Str)).contains (n, x) = true → ExOk X O n x := fun _ _ _ n x h => by simp at h
end
end RA
/-! RAY: further expressions: isinstance by own classes, fields of errors. -/
namespace RA
open PySem PySem.Spec PyProof.Rows L2
variable [Tabs] [LentT]
/-- what stands fast of an own error class -/
structure ErrC (K : PySem.W.Frag) (C : Addr) : Prop where
  cl : (PySem.W.clsIn K C).isSome = true
  ga : PySem.W.findIn K (.ref C) "__getattribute__" = some (some (.builtin "BaseException.__getattribute__"))
  gt : PySem.W.findIn K (.ref C) "__getattr__" = some none
  sb : PySem.W.subIn K (.ref C) (.type "BaseException") = some true
  ca : PySem.W.findIn K (.ref C) "__class__" = some (some (.builtin "object.__class__"))
  cg : PySem.W.specialIn K (.builtin "object.__class__") "__get__" = some (some (.builtin "getset_descriptor.__get__"))
  tk : PySem.W.takesIn K (.builtin "object.__class__") = some true
  mr : PySem.W.mroIn K C (.type "object") = some true
/-- errors of O are told so -/
def ErrAt (O : OpT) (k : Nat) : Prop := ∀ (B : Addr → Prop) (H : Hp) (vs : List V) (a : Addr), O.op B H k vs a → ∃ d, H a = some (.ext (errAt a (.ref (O.ecls k)) d)) ∧ ((vs = [] ∧ d = none) ∨ ∃ dd, d = some dd ∧ ¬ B dd ∧ H dd = some (.xd ((O.enames k).zip vs)))
theorem O1_at {ecls : Nat → Addr} {enames : Nat → List Str} {E : Op2} {k : Nat} (h : E.mine k = false) : ErrAt (O1 ecls enames E) k := fun B H vs a z => by
  have z : (if E.mine k = true then E.op B H k vs a else errOp ecls enames B H k vs a) := z
  rw [h, if_neg Bool.false_ne_true] at z
  exact z.2
theorem O1_op {ecls : Nat → Addr} {enames : Nat → List Str} {E : Op2} {k : Nat} (h : E.mine k = false) : ErrOp (O1 ecls enames E) k := fun B H a dd vs nb e z => by
  show (if E.mine k = true then E.op B H k vs a else errOp ecls enames B H k vs a)
  rw [h, if_neg Bool.false_ne_true]
  exact ⟨nb, dd, e, z⟩
/-- isinstance(x, y), x an own error or None -/
def rIsE2 (K : PySem.W.Frag) (cv : Value) : List V → Hp → VK → Prop := fun xs H Q => ∃ (x c : V) (b : Bool), xs = [x, c] ∧ ClsV c cv ∧
  ((x = .non ∧ PySem.W.kitOne K (.type "NoneType") cv = some b) ∨ ∃ a C d, x = .ref a ∧ ErrC K C ∧ H a = some (.ext (errAt a (.ref C) d)) ∧ (d = none ∨ ∃ dd fs, d = some dd ∧ H dd = some (.xd fs)) ∧ PySem.W.kitOne K (.ref C) cv = some b) ∧ Q (.bl b) H
theorem call_isE2 {X : Cx} {cv : Value} : CallR X (.builtin "isinstance") (rIsE2 X.K cv) := by
  intro pins s σ H xs us Q I r h
  obtain ⟨x, c, b, rfl, hc, h, q⟩ := h
  rcases h with ⟨rfl, e⟩ | ⟨a, C, d, rfl, E, ea, hd, e⟩
  · exact call_isi pins s σ H _ us Q I r ⟨.non, c, _, cv, b, rfl, hc, .base .non, e, q⟩
  · obtain ⟨u1, u2, rfl, r1, r2⟩ := vals2 r
    have e2 := hc.eq r2
    subst e2
    obtain rfl : u1 = Value.ref a := r1
    obtain ⟨⟨oe, vs, g, z, dv⟩, _⟩ := (show ObjOk X.prog X.w H s.heap a _ from I.hok a _ ea)
    have J : ∃ od, PySem.W.InstAt s.heap a oe C od := by
      have nc : PySem.W.notCls oe = true := by unfold PySem.W.notCls; rw [dv]
      rcases hd with rfl | ⟨dd, fs, rfl, hd⟩
      · exact ⟨none, g, z.1, nc, by rw [z.2]; exact True.intro⟩
      · obtain ⟨mA, hns, _⟩ := (show ObjOk X.prog X.w H s.heap dd (.xd fs) from I.hok dd _ hd)
        obtain ⟨od, ho, _⟩ := lookIn_ns hns
        exact ⟨some od, g, z.1, nc, by rw [z.2]; exact ho⟩
    obtain ⟨od, J⟩ := J
    exact PySem.W.kia_one (PySem.W.kitx_exc E.cl E.ga E.gt E.sb E.ca E.cg E.tk E.mr) I.kIn J e (fun z => nomatch z) fun tk => ⟨.bl b, H, I.tok tk, rfl, q⟩
/-- the class that a name tells, for isinstance -/
structure IscOk (K : PySem.W.Frag) (mg : Str → Option Value) (O : OpT) (y : Str) (ys ns : List Nat) : Prop where
  cl : ∃ (c : V) (cv u : Value), ClsV c cv ∧ RelV c u ∧ (mg y = some u ∨ (mg y = none ∧ bootBuiltins y = some u)) ∧ PySem.W.kitOne K (.type "NoneType") cv = some false ∧ (∀ k, ys.contains k = true → PySem.W.kitOne K (.ref (O.ecls k)) cv = some true) ∧ ∀ k, ns.contains k = true → PySem.W.kitOne K (.ref (O.ecls k)) cv = some false
  er : ∀ k, (ys.contains k = true ∨ ns.contains k = true) → ErrC K (O.ecls k) ∧ ErrAt O k
theorem isc_dec {S : Stat} {sc : Scope} {e : Expr} {es : List Expr} {y : Str} {ys ns : List Nat} (h : xtDec (.isc y ys ns) S sc e = some es) : ∃ z p1 a p2 pos, e = .Call (.Name z p1) [a, .Name y p2] [] pos ∧ es = [a] ∧ okB S sc "isinstance" z = true ∧ isGl sc y = true ∧ plainN y = true := by
  unfold xtDec at h
  split at h
  all_goals first | contradiction | (cases h; done) | skip
  rename_i e1
  cases e1
  split at h
  · rename_i hc
    cases h
    simp only [Bool.and_eq_true, decide_eq_true_eq] at hc
    obtain ⟨⟨⟨h1, rfl⟩, h3⟩, h4⟩ := hc
    exact ⟨_, _, _, _, _, rfl, rfl, h1, h3, h4⟩
  · cases h
theorem fld_dec {S : Stat} {sc : Scope} {e : Expr} {es : List Expr} {k j : Nat} {f : Str} (h : xtDec (.fld k j f) S sc e = some es) : ∃ o pos, notC0 o = true ∧ e = .Attribute o f pos ∧ es = [o] := by
  unfold xtDec at h
  split at h
  all_goals first | contradiction | (cases h; done) | skip
  rename_i e1
  cases e1
  split at h
  · rename_i hc
    cases h
    rw [Bool.and_eq_true] at hc
    have h1 := of_decide_eq_true hc.1
    subst h1
    exact ⟨_, _, hc.2, rfl, rfl⟩
  · cases h
theorem isc_ok {S : Stat} {c : Cfg} {y : Str} {ys ns : List Nat} (h : IscOk c.K c.mg c.toOpT y ys ns) : XtOk S c (.isc y ys ns) := by
  intro X O W sc B G e es as hK C hd hp
  subst hK
  obtain ⟨z, p1, a, p2, pos, rfl, rfl, h1, h3, h4⟩ := isc_dec hd
  obtain ⟨rfl, hg, hm, hn, hdb⟩ := okB_of C h1
  cases hp with
  | cons ok pe rest =>
    cases rest
    rename_i x
    obtain ⟨⟨c, cv, u, k1, k2, k3, k4, k5, k6⟩, er⟩ := h
    have hs : starEach [a, .Name y p2] X.env = (false, eval a X.env) :: starEach [.Name y p2] X.env := star_cons (okE_plain ok)
    have hty : PE X (.Name y p2) (tC c) := by
      rcases k3 with k3 | ⟨k3, k7⟩
      · exact pe_glob (C.gl h3) k3 k2 (plainN_of h4).1
      · exact pe_bltn (C.gl h3) k3 k7 k2 (plainN_of h4).2.2 (plainN_of h4).1
    have k4 : PySem.W.kitOne X.K (.type "NoneType") cv = some false := k4
    have k5 : ∀ k, ys.contains k = true → PySem.W.kitOne X.K (.ref (O.ecls k)) cv = some true := k5
    have k6 : ∀ k, ns.contains k = true → PySem.W.kitOne X.K (.ref (O.ecls k)) cv = some false := k6
    have k3 : X.mg y = some u ∨ (X.mg y = none ∧ bootBuiltins y = some u) := k3
    have er : ∀ k, (ys.contains k = true ∨ ns.contains k = true) → ErrC X.K (O.ecls k) ∧ ErrAt O k := er
    refine (pe_callB (call_isE2 (cv := cv)) hg hm PyProof.Rows.boot_isinstance (pa_cons pe (pa_cons hty pa_nil) hs) hn hdb hs rfl).weak fun σ H Q hq => ?_
    simp only [evs] at hq
    refine one_read (T := fun v H1 => rIsE2 X.K cv [v, c] H1 Q) (Q := Q) (k := fun a => ((Rs.ok []).bind fun ds => Rs.ok (a :: ds)).bind (xtD S.F (.isc y ys ns))) ?_ fun a v H1 ea s1 Su zt rv R => ?_
    · cases e : ev S.F x G with
      | no => rw [e] at hq; exact hq
      | ex n fs => rw [e] at hq; exact hq
      | ok a => rw [e] at hq; exact hq
    · obtain ⟨f, d⟩ := a
      have R' : ResE (cfg X O) B (Zof B G σ) W σ H (xtD S.F (.isc y ys ns) [(f, d)]) Q := R
      cases d with
      | non =>
        have e := rv.non
        subst e
        exact ⟨.non, c, false, rfl, k1, .inl ⟨rfl, k4⟩, R' _ _ s1 RepF.mkB⟩
      | opq k cs =>
        have er2 : ∀ b, (b = true → ys.contains k = true) → (b = false → ns.contains k = true) → (∀ v' H', Same H H' → RepF (cfg X O) (Zof B G σ) H H' (.val, .bl b) v' → Q v' H') → rIsE2 X.K cv [v, c] H1 Q := fun b e1 e2 R => by
          have rv := rv.low fun a Z z => by cases z
          cases rv with
          | opq ho hr =>
            have hor : ys.contains k = true ∨ ns.contains k = true := by
              cases b with
              | true => exact .inl (e1 rfl)
              | false => exact .inr (e2 rfl)
            obtain ⟨E, A⟩ := er k hor
            obtain ⟨d, q1, q2⟩ := A _ _ _ _ ho
            refine ⟨_, c, b, rfl, k1, .inr ⟨_, _, d, rfl, E, q1, ?_, ?_⟩, R _ _ s1 RepF.mkB⟩
            · rcases q2 with ⟨_, q2⟩ | ⟨dd, q2, _, q3⟩
              · exact .inl q2
              · exact .inr ⟨dd, _, q2, q3⟩
            · cases b with
              | true => exact k5 k (e1 rfl)
              | false => exact k6 k (e2 rfl)
        unfold xtD at R'
        dsimp only at R'
        by_cases q1 : ys.contains k = true
        · rw [if_pos q1] at R'
          exact er2 true (fun _ => q1) (fun z => by cases z) R'
        · rw [if_neg q1] at R'
          by_cases q2 : ns.contains k = true
          · rw [if_pos q2] at R'
            exact er2 false (fun z => by cases z) (fun _ => q2) R'
          · rw [if_neg q2] at R'; exact False.elim R'
      | _ => exact False.elim R'
theorem cc_nil {P : Nat → Prop} : ∀ k, ([] : List Nat).contains k = true → P k := fun k h => by simp at h
theorem cc_cons {P : Nat → Prop} {a : Nat} {l : List Nat} (h : P a) (r : ∀ k, l.contains k = true → P k) : ∀ k, (a :: l).contains k = true → P k := fun k hk => by
  rw [List.contains_cons, Bool.or_eq_true] at hk
  rcases hk with z | z
  · rw [eq_of_beq z]; exact h
  · exact r k z
theorem isc_mk {K : PySem.W.Frag} {mg : Str → Option Value} {O : OpT} {y : Str} {ys ns : List Nat} {C : Addr} (hm : mg y = some (.ref C)) (hn : PySem.W.kitOne K (.type "NoneType") (.ref C) = some false) (hy : ∀ k, ys.contains k = true → PySem.W.kitOne K (.ref (O.ecls k)) (.ref C) = some true)
    (hns : ∀ k, ns.contains k = true → PySem.W.kitOne K (.ref (O.ecls k)) (.ref C) = some false) (e1 : ∀ k, ys.contains k = true → ErrC K (O.ecls k) ∧ ErrAt O k) (e2 : ∀ k, ns.contains k = true → ErrC K (O.ecls k) ∧ ErrAt O k) : IscOk K mg O y ys ns :=
  ⟨⟨.ref C, .ref C, .ref C, .own C, rfl, .inl hm, hn, hy, hns⟩, fun k h => h.elim (e1 k) (e2 k)⟩
theorem isc_ve {K : PySem.W.Frag} {mg : Str → Option Value} {O : OpT} {ys : List Nat} (hm : mg "ValueError" = none) (hy : ∀ k, ys.contains k = true → PySem.W.kitOne K (.ref (O.ecls k)) (.type "ValueError") = some true)
    (e1 : ∀ k, ys.contains k = true → ErrC K (O.ecls k) ∧ ErrAt O k) : IscOk K mg O "ValueError" ys [] :=
  ⟨⟨.ty "ValueError", .type "ValueError", .type "ValueError", .ty _, rfl, .inr ⟨hm, L2.boot_ValueError⟩, kit_ty (by decide +kernel), hy, cc_nil⟩, fun k h => h.elim (e1 k) fun z => by simp at z⟩
theorem fnok_no {P : Program} {w : World} {K : PySem.W.Frag} {mg : Str → Option Value} {base : Heap} {CX : CXT} {k : Nat} {f : Addr} {fd : FuncData} {ps : List Str} {c : Cfg} : FnOk P w K mg base CX k f fd ps (spOf c fun _ => .no) :=
  ⟨fun _ _ _ _ ⟨_, _, _, _, _, z⟩ => z.elim, fun _ _ _ _ _ _ _ _ _ _ _ _ _ ⟨_, _, _, _, _, z⟩ => z.elim⟩
end RA
/-! RAE: errors with fields: their __init__, raise. -/
namespace RA
open PySem PySem.Spec PyProof.Rows L2
variable [Tabs] [LentT]
/-- how a method's call with the parts on one line is asked -/
theorem line_call {p1 p2 pos : Pos} {y : Str} {x : Str} {z : Str} {cs : Const} {jj : Nat} {p3 p4 : Pos} {env : Env} (h : (p2.endLine == pos.line) = true) : ∃ pl : Sem Bool, eval (.Call (.Attribute (.Name x p1) y p2) [.Name z p3, .Constant cs jj p4] [] pos) env = (do
    let ov ← eval (.Name x p1) env
    standAt p2.atName
    let (f, first) ← holding [ov] (getMethod ov y pl)
    callWith pos f first (backTo pos (starEach [.Name z p3, .Constant cs jj p4] env)) (backToKw pos (keywordEach [] env))) := by
  have e : ∀ ov, methodCall (.Name x p1) y p2 pos env ov 2 (backTo pos (starEach [.Name z p3, .Constant cs jj p4] env)) (backToKw pos (keywordEach [] env)) = _ := fun ov => mcall_line (o := .Name x p1) (m := y) (apos := p2) (pos := pos) (env := env) (ov := ov) (n := 2) (args := backTo pos (starEach [.Name z p3, .Constant cs jj p4] env)) (kws := backToKw pos (keywordEach [] env)) rfl h
  refine ⟨plainOf (.Name x p1) env, ?_⟩
  show (eval (.Name x p1) env >>= fun ov => standAt p2.atName >>= fun _ => methodCall (.Name x p1) y p2 pos env ov 2 (backTo pos (starEach [.Name z p3, .Constant cs jj p4] env)) (backToKw pos (keywordEach [] env))) = _
  congr 1
  funext ov
  rw [e ov]
/-- x.__init__(self, ..), x an own class whose __init__ is ValueError's -/
theorem pe_clsinit {X : Cx} {D : Addr} {e : Expr} {es : List Expr} {ta : TA} {p1 p2 pos : Pos} {pl : Sem Bool} (hg : Gl X ("RoomError" : Str)) (hm : X.mg ("RoomError" : Str) = some (.ref D))
    (g1 : PySem.W.specialIn X.K (.ref D) "__getattribute__" = some (some (.builtin "type.__getattribute__"))) (g2 : PySem.W.typeIn X.K (.ref D) = some (.type "type")) (g3 : PySem.W.readsIn X.K D (.type "type") = true)
    (g4 : PySem.W.findCls X.K (.ref D) (.type "type") "__init__" = some (.val (.builtin "ValueError.__init__"))) (ha : PA X (e :: es) ta)
    (hc : eval (.Call (.Attribute (.Name ("RoomError" : Str) p1) "__init__" p2) (e :: es) [] pos) X.env = (do
      let ov ← eval (.Name ("RoomError" : Str) p1) X.env
      standAt p2.atName
      let (f, first) ← holding [ov] (getMethod ov "__init__" pl)
      callWith pos f first (backTo pos (starEach (e :: es) X.env)) (backToKw pos (keywordEach [] X.env))) := by rfl)
    (he : starEach (e :: es) X.env = (false, eval e X.env) :: starEach es X.env := by rfl) (hpl : (backTo pos (starEach es X.env)).any (·.1) = false := by rfl) :
    PE X (.Call (.Attribute (.Name ("RoomError" : Str) p1) "__init__" p2) (e :: es) [] pos) (tVeI X.K ta) := by
  refine ⟨fun pins s σ H Q I h => PySem.W.methodCall_KW (ld_glob I hg hm ?_ (by decide)) hc⟩
  obtain ⟨m, fr⟩ := I.fr
  refine PySem.W.method_of_cls fr I.ok.mod.kin g1 (PySem.W.cls_val fr I.ok.mod.kin g2 g3 g4 (by rfl) ?_)
  show wpAny _ _ (callWith pos (Value.builtin "ValueError.__init__") [] (backTo pos (starEach (e :: es) X.env)) []) _ _ _
  refine PyProof.Rows.callWith_method1 (thn (ha.run pos pins _ σ H _ (I.tok _) h) fun us s1 ⟨vs, H1, I1, rv, q⟩ => ?_) he hpl
  obtain ⟨a, C, ws, rfl, hl, T, ea, q⟩ := q
  cases rv with
  | cons r0 rs =>
    cases r0
    refine oinit_ok T I1 ea ?_ fun s' J => ⟨.non, H1, J, rfl, q⟩
    have := Paired.length rs
    rw [sizeLine_eq]; omega
/-- the base class of errors, whose __init__ is ValueError's -/
structure BasC (K : PySem.W.Frag) (mg : Str → Option Value) (D : Addr) : Prop where
  nm : mg ("RoomError" : Str) = some (.ref D)
  g1 : PySem.W.specialIn K (.ref D) "__getattribute__" = some (some (.builtin "type.__getattribute__"))
  g2 : PySem.W.typeIn K (.ref D) = some (.type "type")
  g3 : PySem.W.readsIn K D (.type "type") = true
  g4 : PySem.W.findCls K (.ref D) (.type "type") "__init__" = some (.val (.builtin "ValueError.__init__"))
/-- self.f = p, and what is behind it -/
def stepS : List Stmt → Option (Str × Str × Str × List Stmt)
  | .Assign [.Attribute (.Name s _) f _] (.Name p _) _ :: r => some (s, f, p, r)
  | _ => none
theorem stepS_of {b r : List Stmt} {s f p : Str} (h : stepS b = some (s, f, p, r)) : ∃ q1 q2 q3 q4, b = .Assign [.Attribute (.Name s q1) f q2] (.Name p q3) q4 :: r := by
  unfold stepS at h
  split at h
  · cases h; exact ⟨_, _, _, _, rfl⟩
  · cases h
def storesB : List (Str × Str) → List Stmt → Bool
  | [], b => b.isEmpty
  | (f, p) :: fs, b => (match stepS b with | some (s, f', p', r) => decide (s = ("self" : Str)) && decide (f' = f) && decide (p' = p) && storesB fs r | none => false)
/-- B.__init__(self, text), and what is behind it -/
def headS : List Stmt → Option (Str × Str × Str × Bool × List Stmt)
  | .Expr (.Call (.Attribute (.Name b _) y p2) [.Name s _, .Constant (.str _) _ _] [] pos) _ :: r => some (b, y, s, p2.endLine == pos.line, r)
  | _ => none
theorem headS_of {b r : List Stmt} {B y s : Str} {l : Bool} (h : headS b = some (B, y, s, l, r)) : ∃ q1 q2 q3 q4 j q5 q6 m, b = .Expr (.Call (.Attribute (.Name B q1) y q2) [.Name s q3, .Constant (.str m) j q4] [] q5) q6 :: r ∧ (q2.endLine == q5.line) = l := by
  unfold headS at h
  split at h
  · cases h; exact ⟨_, _, _, _, _, _, _, _, rfl, rfl⟩
  · cases h
/-- the body of such an __init__: RoomError.__init__(self, text); self.f = p .. -/
def initB (fs : List (Str × Str)) (b : List Stmt) : Bool := match headS b with
  | some (b', y, s, l, r) => l && decide (b' = ("RoomError" : Str)) && decide (y = ("__init__" : Str)) && decide (s = ("self" : Str)) && storesB fs r
  | none => false
/-- what was stored of the fields, last first -/
def putF (H : Hp) (dx : Addr) (acc : List (Str × V)) : List (Str × V) → Hp × List (Str × V)
  | [] => (H, acc)
  | (f, v) :: r => putF (upd H dx (exd dx ((f, v) :: acc))) dx ((f, v) :: acc) r
section
variable {P : Program} {w : World} {K : PySem.W.Frag} {mg : Str → Option Value} {base : Heap}
/-- the promise of an __init__ with the fields fs -/
def spInit (K : PySem.W.Frag) (C : Addr) (fs : List Str) : Sp := fun vs H Q _ => ∃ (a : Addr) (us : List V), vs = .ref a :: us ∧ us.length = fs.length ∧ OexC K C ∧ H a = some (exo a C none) ∧
  ∀ dx, H dx = none → dx ≠ a → match fs.zip us with
    | [] => False
    | (f, v) :: r => Q .non (putF (upd (upd H dx (exd dx [(f, v)])) a (exo a C (some dx))) dx [(f, v)] r).1
theorem storesB_step {f p : Str} {fs : List (Str × Str)} {b : List Stmt} (h : storesB ((f, p) :: fs) b = true) : ∃ q1 q2 q3 q4 r, b = .Assign [.Attribute (.Name ("self" : Str) q1) f q2] (.Name p q3) q4 :: r ∧ storesB fs r = true := by
  unfold storesB at h
  split at h
  · rename_i e
    obtain ⟨q1, q2, q3, q4, rfl⟩ := stepS_of e
    simp only [Bool.and_eq_true, decide_eq_true_eq] at h
    obtain ⟨⟨⟨rfl, rfl⟩, rfl⟩, h4⟩ := h
    exact ⟨_, _, _, _, _, rfl, h4⟩
  · cases h
theorem storesB_nil {b : List Stmt} (h : storesB [] b = true) : b = [] := List.isEmpty_iff.mp h
theorem initB_step {fs : List (Str × Str)} {b : List Stmt} (h : initB fs b = true) : ∃ q1 q2 q3 q4 j q5 q6 m r, b = .Expr (.Call (.Attribute (.Name ("RoomError" : Str) q1) ("__init__" : Str) q2) [.Name ("self" : Str) q3, .Constant (.str m) j q4] [] q5) q6 :: r ∧ (q2.endLine == q5.line) = true ∧ storesB fs r = true := by
  unfold initB at h
  split at h
  · rename_i e
    obtain ⟨q1, q2, q3, q4, j, q5, q6, m, rfl, hl⟩ := headS_of e
    simp only [Bool.and_eq_true, decide_eq_true_eq] at h
    obtain ⟨⟨⟨⟨h0, rfl⟩, rfl⟩, rfl⟩, h4⟩ := h
    exact ⟨_, _, _, _, _, _, _, _, _, rfl, hl.trans h0, h4⟩
  · cases h
/-- self.f = p, .. : the reading -/
def tStores (K : PySem.W.Frag) : List (Str × Str) → Nat → TS
  | [], _ => tNext
  | (f, _) :: r, i => tSeq (tOst K f (tVar 0) (tVar i)) (tStores K r (i + 1))
theorem stores_pss {X : Cx} (hself : X.N[0]? = some ("self" : Str)) (hvs : Vis X.env.scope ("self" : Str)) : ∀ (fs : List (Str × Str)) (i : Nat) (b : List Stmt), storesB fs b = true →
    (∀ (k : Nat) f p, fs[k]? = some (f, p) → X.N[i + k]? = some p ∧ Vis X.env.scope p ∧ (p == ("__debug__" : Str)) = false ∧ (p == ("__classdict__" : Str)) = false) → PSs X b (tStores X.K fs i) := by
  intro fs
  induction fs with
  | nil => intro i b hb _; rw [storesB_nil hb]; exact pss_nil
  | cons fp fs ih =>
    intro i b hb hs
    obtain ⟨f, p⟩ := fp
    obtain ⟨q1, q2, q3, q4, r, rfl, hr⟩ := storesB_step hb
    obtain ⟨n1, n2, n3, n4⟩ := hs 0 f p rfl
    exact pss_cons (ps_ost (pe_var (i := 0) hself hvs (by decide) (by decide)) (pe_var (i := i) n1 n2 n3 n4)) (ih (i + 1) r hr fun k g x e => by
      have := hs (k + 1) g x (by simpa using e)
      rwa [show i + 1 + k = i + (k + 1) from by omega])
theorem stores_ans {K : PySem.W.Frag} {C a dx : Addr} (T : OexC K C) : ∀ (fs : List (Str × Str)) (us : List V) (i : Nat) (H : Hp) (acc : List (Str × V)) (σ : L2.St) (D : Ends),
    (∀ f p, (f, p) ∈ fs → PySem.W.findIn K (.ref C) f = some none) → fs.length = us.length → (∀ (k : Nat) v, us[k]? = some v → σ[i + k]? = some (some v)) →
    acc.length + fs.length ≤ 900 → σ[0]? = some (some (.ref a)) → H a = some (exo a C (some dx)) → H dx = some (exd dx acc) → a ≠ dx → D.nx σ (putF H dx acc ((fs.map (·.1)).zip us)).1 →
    tStores K fs i D σ H := by
  intro fs
  induction fs with
  | nil => intro us i H acc σ D _ hl _ _ _ _ _ _ q; exact q
  | cons fp fs ih =>
    intro us i H acc σ D hn hl hs hacc h0 ea ed ne q
    obtain ⟨f, p⟩ := fp
    cases us with
    | nil => cases hl
    | cons v us =>
      have n5 : σ[i]? = some (some v) := hs 0 v rfl
      rw [List.length_cons] at hacc
      refine ⟨v, n5, .ref a, h0, a, C, rfl, T, hn f p List.mem_cons_self, .inr ⟨dx, acc, ea, ed, by omega, ?_⟩⟩
      exact ih us (i + 1) (upd H dx (exd dx ((f, v) :: acc))) ((f, v) :: acc) σ D (fun g x hm => hn g x (List.mem_cons_of_mem _ hm)) (by simpa using hl)
        (fun k u e => by
          have := hs (k + 1) u (by simpa using e)
          rwa [show i + 1 + k = i + (k + 1) from by omega]) (by rw [List.length_cons]; omega) h0 (by rw [upd_ne ne]; exact ea) upd_same ne q
/-- an __init__ with fields -/
theorem init_ok {C D f : Addr} {fd : FuncData} {st : Stmt} {qual f1 p1 : Str} {fs ps : List Str} (F : Fun K "__init__" qual st f fd) (Sc : FnScope (("self" : Str) :: p1 :: ps) (("self" : Str) :: p1 :: ps) (defScope st)) (Bc : BasC K mg D) (hb : initB ((f1, p1) :: fs.zip ps) (defBody st) = true) (hl : fs.length = ps.length) (h9 : fs.length ≤ 9)
    (hg : isGl (defScope st) ("RoomError" : Str) = true) (hp : ((p1 :: ps).all fun p => plainN p && isVis (defScope st) p) = true) (hsv : isVis (defScope st) ("self" : Str) = true) (hn : ∀ g, (f1 :: fs).contains g = true → PySem.W.findIn K (.ref C) g = some none) : FnOk P w K mg base (L2.CX P w) 1 f fd (("self" : Str) :: p1 :: ps) (spInit K C (f1 :: fs)) := by
  refine F.okX Sc (fun vs H Q E ⟨a, us, e, hu, _⟩ => by simp only [e, List.length_cons] at hu ⊢; omega) fun cdv A outer s H vs Q E hr ⟨a, us, e, hu, T, ea, q⟩ => ?_
  subst e
  cases us with
  | nil => cases hu
  | cons v us =>
    obtain ⟨q1, q2, q3, q4, j, q5, q6, m, r, eb, hln, hst⟩ := initB_step hb
    obtain ⟨s1, s2, s3, s4, r', rfl, hst'⟩ := storesB_step hst
    rw [eb]
    let X := cxOf (L2.CX P w) P w K mg base (("self" : Str) :: p1 :: ps) qual (defScope st) f cdv A outer s H E
    show ∃ t, PSs X _ t ∧ _
    have st0 : (L2.start (("self" : Str) :: p1 :: ps) (V.ref a :: v :: us))[0]? = some (some (.ref a)) := rfl
    have st1 : (L2.start (("self" : Str) :: p1 :: ps) (V.ref a :: v :: us))[1]? = some (some v) := rfl
    have stk : ∀ (k : Nat) u, us[k]? = some u → (L2.start (("self" : Str) :: p1 :: ps) (V.ref a :: v :: us))[2 + k]? = some (some u) := fun k u e => by
      unfold L2.start
      have hk := (List.getElem?_eq_some_iff.mp e).1
      rw [List.getElem?_append_left (by rw [List.length_map, List.length_cons, List.length_cons]; omega), List.getElem?_map, Nat.add_comm, List.getElem?_cons_succ, List.getElem?_cons_succ, e]; rfl
    have hvs : Vis X.env.scope ("self" : Str) := vis_of hsv
    have hP : ∀ p ∈ p1 :: ps, Vis X.env.scope p ∧ (p == ("__debug__" : Str)) = false ∧ (p == ("__classdict__" : Str)) = false := fun p hm => by
      have := List.all_eq_true.mp hp p hm
      rw [Bool.and_eq_true] at this
      obtain ⟨z1, z2, _⟩ := plainN_of this.1
      exact ⟨vis_of this.2, z1, z2⟩
    have hgl : Gl X ("RoomError" : Str) := gl_of hg
    obtain ⟨k1, k2, k3⟩ := hP p1 List.mem_cons_self
    have call := pe_clsinit (X := X) (p1 := q1) (p2 := q2) (pos := q5) hgl Bc.nm Bc.g1 Bc.g2 Bc.g3 Bc.g4 (pa_cons (pe_var (i := 0) (pos := q3) rfl hvs (by decide) (by decide)) (pa_cons (pe_str (x := m) (j := j) (pos := q4)) pa_nil)) (line_call hln).choose_spec
    have ol : (fs.zip ps).length = us.length := by
      rw [List.length_zip]
      simp only [List.length_cons] at hu
      omega
    refine ⟨_, pss_cons (ps_expr call) (pss_cons (ps_ost (pe_var (i := 0) (pos := s1) rfl hvs (by decide) (by decide)) (pe_var (i := 1) (pos := s3) rfl k1 k2 k3)) (stores_pss (X := X) rfl hvs (fs.zip ps) 2 r' hst' fun k g p e => ?_)), ?_⟩
    · have e3 : ps[k]? = some p := (List.getElem?_zip_eq_some.mp e).2
      obtain ⟨z1, z2, z3⟩ := hP p (List.mem_cons_of_mem _ (List.mem_of_getElem? e3))
      refine ⟨?_, z1, z2, z3⟩
      show (("self" : Str) :: p1 :: ps)[2 + k]? = some p
      rw [Nat.add_comm, List.getElem?_cons_succ, List.getElem?_cons_succ, e3]
    · refine ⟨.ref a, st0, ?_⟩
      refine ⟨a, C, [.str m], rfl, (by show 1 ≤ 1000; decide), T, ea, ?_⟩
      refine ⟨v, st1, .ref a, st0, a, C, rfl, T, hn f1 (by simp), .inl ⟨ea, fun dx hd ne => ?_⟩⟩
      refine stores_ans T (fs.zip ps) us 2 _ [(f1, v)] _ _ (fun g p hm => hn g ?_) ol (fun k u e => stk k u e) (by rw [List.length_singleton, ol]; simp only [List.length_cons] at hu; omega) st0 upd_same (by rw [upd_ne ne]; exact upd_same) (Ne.symm ne) ?_
      · rw [List.contains_iff_mem]
        exact List.mem_cons_of_mem _ (List.of_mem_zip hm).1
      · have e4 : ((fs.zip ps).map (·.1)).zip us = fs.zip us := by
          rw [List.map_fst_zip (by omega)]
        rw [e4]
        exact q dx hd ne
end
/-! ### raise X(..), X with fields -/
theorem putF_acc : ∀ (l : List (Str × V)) (H : Hp) (dx : Addr) (acc : List (Str × V)), (∀ b, b ≠ dx → (putF H dx acc l).1 b = H b) ∧ (H dx = some (exd dx acc) → (putF H dx acc l).1 dx = some (exd dx (l.reverse ++ acc)))
  | [], H, dx, acc => ⟨fun _ _ => rfl, fun h => h⟩
  | (f, v) :: l, H, dx, acc => by
    obtain ⟨h1, h2⟩ := putF_acc l (upd H dx (exd dx ((f, v) :: acc))) dx ((f, v) :: acc)
    refine ⟨fun b hb => (h1 b hb).trans (upd_ne hb), fun _ => (h2 upd_same).trans ?_⟩
    rw [List.reverse_cons, List.append_assoc]; rfl
theorem zip_rev {α β : Type} : ∀ {xs : List α} {ys : List β}, xs.length = ys.length → (xs.zip ys).reverse = xs.reverse.zip ys.reverse
  | [], _, _ => rfl
  | _ :: _, [], h => by cases h
  | x :: xs, y :: ys, h => by
    have h' : xs.length = ys.length := by simpa using h
    rw [List.zip_cons_cons, List.reverse_cons, List.reverse_cons, List.reverse_cons, zip_rev h', List.zip_append (by rw [List.length_reverse, List.length_reverse, h'])]; rfl
theorem parts_len {S : Stat} {X : Cx} {O : OpT} {W : WX} {sc : Scope} {B : Addr → Prop} {G : Ev} {es : List Expr} {as : IEs} (h : Parts S X O W sc B G es as) : ∀ {ds : List (Fl × RA.D)}, evs S.F as G = .ok ds → ds.length = es.length := by
  induction h with
  | nil => intro ds e; simp only [evs, Rs.ok.injEq] at e; subst e; rfl
  | cons k p r ih =>
    intro ds e
    rename_i ee x es as
    simp only [evs] at e
    cases e1 : ev S.F x G with
    | no => rw [e1] at e; cases e
    | ex n fs => rw [e1] at e; cases e
    | ok a =>
      rw [e1, Rs.bind_ok] at e
      cases e2 : evs S.F as G with
      | no => rw [e2] at e; cases e
      | ex n fs => rw [e2] at e; cases e
      | ok ds' =>
        rw [e2, Rs.bind_ok] at e
        cases e
        rw [List.length_cons, List.length_cons, ih e2]
/-- a def in a class -/
def inner (i : Nat) : Stmt → Stmt
  | .ClassDef _ _ _ body _ _ _ _ _ _ _ => body.getD i (.Pass ⟨0, 0, 0, 0⟩)
  | s => s
theorem nf_nil {K : PySem.W.Frag} {C : Addr} : ∀ g, ([] : List Str).contains g = true → PySem.W.findIn K (.ref C) g = some none := fun g h => by simp at h
theorem nf_cons {K : PySem.W.Frag} {C : Addr} {f : Str} {l : List Str} (h : PySem.W.findIn K (.ref C) f = some none) (r : ∀ g, l.contains g = true → PySem.W.findIn K (.ref C) g = some none) : ∀ g, (f :: l).contains g = true → PySem.W.findIn K (.ref C) g = some none := fun g hg => by
  rw [List.contains_cons, Bool.or_eq_true] at hg
  rcases hg with z | z
  · rw [eq_of_beq z]; exact h
  · exact r g z
/-- an error class with fields -/
structure ErrI (c : Cfg) (x : Str) (k : Nat) (fs : List Str) : Prop where
  nm : c.mg x = some (.ref (c.ecls k))
  ox : OexC c.K (c.ecls k)
  ini : ∃ (fI : Addr) (fd : FuncData) (ps : List Str), PySem.W.findIn c.K (.ref (c.ecls k)) "__init__" = some (some (.ref fI)) ∧ PySem.W.typeIn c.K (.ref fI) = some (.type "function") ∧ FnOk c.P c.w c.K c.mg c.base (L2.CX c.P c.w) 1 fI fd ps (spInit c.K (c.ecls k) fs) ∧ Binds c.K fd ps []
  en : c.enames k = fs.reverse
  ne : 0 < fs.length
  le : fs.length ≤ 900
theorem rsx_dec {S : Stat} {sc : Scope} {st : Stmt} {es : List Expr} {k n : Nat} {x : Str} (h : ytDec (.rsx k x n) S sc st = some es) : ∃ p p2 pos, st = .Raise (some (.Call (.Name x p) es [] p2)) none pos ∧ isGl sc x = true ∧ plainN x = true ∧ es.length = n := by
  unfold ytDec at h
  split at h
  all_goals first | contradiction | (cases h; done) | skip
  rename_i e1
  cases e1
  split at h
  · rename_i hc
    cases h
    simp only [Bool.and_eq_true, decide_eq_true_eq] at hc
    obtain ⟨⟨⟨rfl, h2⟩, h3⟩, h4⟩ := hc
    exact ⟨_, _, _, rfl, h2, h3, h4⟩
  · cases h
theorem rsx_ok {S : Stat} {c : Cfg} {k n : Nat} {x : Str} {fs : List Str} (E : ErrI c x k fs) (hn : fs.length = n) (hk : 2 ≤ S.k) : YtOk S c (.rsx k x n) := by
  intro X O W sc B G st es as hc C hd _ _ hpA
  have hp := hpA G
  subst hc
  obtain ⟨p, p2, pos, rfl, h1, h2, h3⟩ := rsx_dec hd
  obtain ⟨fI, fd, ps, i1, i2, F1, hb⟩ := E.ini
  have E1 : X.mg x = some (.ref (O.ecls k)) := E.nm
  have E2 : OexC X.K (O.ecls k) := E.ox
  have E3 : O.enames k = fs.reverse := E.en
  have pos' := E.ne
  have le9 := E.le
  cases hp with
  | nil => simp at h3; omega
  | @cons e xe es as ok pe rest =>
    have hs : starEach (e :: es) X.env = (false, eval e X.env) :: starEach es X.env := star_cons (okE_plain ok)
    have okr : ∀ {es : List Expr} {as : IEs}, Parts S X O W sc B G es as → okA S as sc es = true := fun h => by
      induction h with
      | nil => rfl
      | cons k _ _ ih => simp only [okA, k, ih, Bool.and_self]
    have mk := pmk_oex (X := X) (CX := L2.CX X.prog X.w) (x := x) (p := p) (pos := p2) (dvs := []) (ds := []) E2 i1 i2 F1 (C.room.mono hk) hb .nil (passes_call C.tk fun _ _ _ _ z => z.elim) (C.gl h1) E1 (Parts.cons ok pe rest).pa (plainN_of h2).1 hs (okA_back (okr rest))
    refine (ps_raise C.calm C.tk mk).weak fun D σ H ⟨Su, R⟩ => ?_
    have plen := fun {ds} => parts_len (Parts.cons ok pe rest) (ds := ds)
    refine ⟨Su, ?_⟩
    cases ea : evs S.F (.cons xe as) G with
    | no => rw [ea] at R; exact R
    | ex m gs => rw [ea] at R; exact fun cls dd H' s e => R cls dd σ H' (Su.same s) (Step.of s fun a z => .inl z) e
    | ok ds =>
      rw [ea, Rs.out_ok] at R
      have dl := plen ea
      intro vs H1 s1 rs
      have vl := rs.length
      have R : ResS (cfg X O) B W D G σ H (if keepOk ds = true then .ex G k (ds.map (·.2)).reverse else .no) := R
      split at R
      rotate_left
      · exact False.elim R
      rename_i hkp
      have rep := rs.keep hkp Su.ztr
      refine ⟨by omega, fun a na => ⟨a, vs, by rw [List.append_nil], by omega, E2, upd_same, fun dx hd ne => ?_⟩⟩
      match fs, vs, hn, vl, rep, E3 with
      | f1 :: fr, v1 :: vr, hn, vl, rep, E3 =>
        have hd1 : H1 dx = none := by rw [upd_ne ne] at hd; exact hd
        obtain ⟨a1, a2⟩ := putF_acc (fr.zip vr) (upd (upd (upd H1 a (exo a (O.ecls k) none)) dx (exd dx [(f1, v1)])) a (exo a (O.ecls k) (some dx))) dx [(f1, v1)]
        have e1 := a2 (by rw [upd_ne ne]; exact upd_same)
        have e0 := a1 a (Ne.symm ne)
        rw [upd_same] at e0
        refine ⟨rfl, dx, _, e0, e1, hd1, ?_⟩
        have len : (f1 :: fr).length = (v1 :: vr).length := by omega
        have ez : (fr.zip vr).reverse ++ [(f1, v1)] = (O.enames k).zip (v1 :: vr).reverse := by
          rw [E3, ← zip_rev len, List.zip_cons_cons, List.reverse_cons]
        rw [ez]
        let H3 := (putF (upd (upd (upd H1 a (exo a (O.ecls k) none)) dx (exd dx [(f1, v1)])) a (exo a (O.ecls k) (some dx))) dx [(f1, v1)] (fr.zip vr)).1
        have sm : Same H1 (upd (del H3 a) dx (.xd ((O.enames k).zip (v1 :: vr).reverse))) := Same.all fun b o hb => by
          have b1 : b ≠ dx := fun z => by rw [z, hd1] at hb; cases hb
          have b2 : b ≠ a := fun z => by rw [z, na] at hb; cases hb
          rw [upd_ne b1, del_ne b2]
          refine (a1 b b1).trans ?_
          rw [upd_ne b2, upd_ne b1, upd_ne b2]; exact hb
        have nz : ¬ Zof B G σ dx := fun z => Su.ztr dx z (s1.free hd1)
        exact R _ _ σ _ (Su.same (s1.trans sm)) (Step.of (s1.trans sm) fun b z => .inl z) ⟨rfl, .inr ⟨dx, (v1 :: vr).reverse, rfl, nz, upd_same, (rep.rev).same sm⟩⟩
      | [], _, hn, vl, rep, E3 => exact absurd pos' (by simp)
      | f1 :: fr, [], hn, vl, rep, E3 => simp only [List.length_cons, List.length_nil] at hn vl dl h3; omega
/-! ### x.f of an error -/
/-- the reading: an error of the class at C, its field f -/
def tErrF (C : Addr) (f : Str) (te : TE) : TE := fun σ H Q => te σ H fun x H1 => ∃ (a dd : Addr) (fs : List (Str × V)) (v : V), x = .ref a ∧ H1 a = some (.ext (errAt a (.ref C) (some dd))) ∧ H1 dd = some (.xd fs) ∧ fs.lookup f = some v ∧ Q v H1
theorem pe_errF {X : Cx} {C : Addr} {e : Expr} {te : TE} {pos : Pos} {f : Str} (T : XfC X.K C) (hno : PySem.W.findIn X.K (.ref C) f = some none) (he : PE X e te) (hb : attributeBase e f X.env (eval e X.env) = eval e X.env) : PE X (.Attribute e f pos) (tErrF C f te) := by
  refine ⟨fun pins s σ H Q I h => attr_of hb (thn (he.run pins s σ H _ I h) fun u s1 ⟨x, H1, I1, rx, a, dd, fs, v, ex, ea, ed, hl, q⟩ => ?_)⟩
  subst ex
  cases rx
  obtain ⟨⟨oe, vs, g, z, dv⟩, _⟩ := (show ObjOk X.prog X.w H1 s1.heap a _ from I1.hok a _ ea)
  obtain ⟨mA, hns, hr⟩ := (show ObjOk X.prog X.w H1 s1.heap dd (.xd fs) from I1.hok dd _ ed)
  obtain ⟨od, ho, hlk⟩ := lookIn_ns hns
  obtain ⟨w, hw, rw'⟩ := RelO.some_of (v := v) (o := mA f) (by rw [← hl]; exact hr f)
  have J : PySem.W.InstAt s1.heap a oe C (some od) := ⟨g, z.1, by unfold PySem.W.notCls; rw [dv], by rw [z.2]; exact ho⟩
  exact HandSPX.exc_get I1.kIn J T.ga T.gg T.exC (PySem.W.findObj_own T.hdC hno rfl (by rw [hlk, hw])) (handed_of rw') ⟨v, H1, I1.tok _, rw', q⟩
theorem lookup_zip : ∀ {ns : List Str} {vs : List V} {j : Nat} {f : Str} {v : V}, ns.Nodup → ns[j]? = some f → vs[j]? = some v → (ns.zip vs).lookup f = some v
  | [], _, _, _, _, _, e, _ => by simp at e
  | _ :: _, [], _, _, _, _, _, e => by simp at e
  | n :: ns, v :: vs, 0, f, w, _, e1, e2 => by
    cases e1; cases e2
    rw [List.zip_cons_cons, List.lookup_cons_self]
  | n :: ns, v :: vs, j + 1, f, w, nd, e1, e2 => by
    rw [List.nodup_cons] at nd
    have h1 : ns[j]? = some f := by simpa using e1
    have h2 : vs[j]? = some w := by simpa using e2
    have ne : (f == n) = false := beq_eq_false_iff_ne.mpr fun z => nd.1 (z ▸ List.mem_of_getElem? h1)
    rw [List.zip_cons_cons, List.lookup_cons, ne]
    exact lookup_zip nd.2 h1 h2
structure FldOk (c : Cfg) (k j : Nat) (f : Str) : Prop where
  T : XfC c.K (c.ecls k)
  no : PySem.W.findIn c.K (.ref (c.ecls k)) f = some none
  en : (c.enames k)[j]? = some f
  nd : (c.enames k).Nodup
  at_ : ErrAt c.toOpT k
theorem fld_ok {S : Stat} {c : Cfg} {k j : Nat} {f : Str} (h : FldOk c k j f) : XtOk S c (.fld k j f) := by
  intro X O W sc B G e es as hK C hd hp
  subst hK
  obtain ⟨o, pos, n0, rfl, rfl⟩ := fld_dec hd
  cases hp with
  | cons ok pe rest =>
    cases rest
    rename_i x
    refine (pe_errF (X := X) (C := O.ecls k) h.T h.no pe (attrBase n0)).weak fun σ H Q hq => ?_
    simp only [evs] at hq
    refine one_read (T := fun v H1 => _) (Q := Q) (k := fun a => ((Rs.ok []).bind fun ds => Rs.ok (a :: ds)).bind (xtD S.F (.fld k j f))) ?_ fun a v H1 ea s1 Su zt rv R => ?_
    · cases e : ev S.F x G with
      | no => rw [e] at hq; exact hq
      | ex n fs => rw [e] at hq; exact hq
      | ok a => rw [e] at hq; exact hq
    · obtain ⟨fl, d⟩ := a
      have R' : ResE (cfg X O) B (Zof B G σ) W σ H (xtD S.F (.fld k j f) [(fl, d)]) Q := R
      cases d with
      | opq n cs =>
        unfold xtD at R'
        dsimp only at R'
        split at R'
        rotate_left
        · exact False.elim R'
        rename_i hnk
        subst hnk
        cases hj : cs[j]? with
        | none => rw [hj] at R'; exact False.elim R'
        | some d =>
          rw [hj] at R'
          have rv := rv.low fun a Z z => by cases z
          cases rv with
          | opq ho hr =>
            rename_i a vs
            obtain ⟨dd0, q1, q2⟩ := h.at_ _ _ _ _ ho
            obtain ⟨v, hv, rvv⟩ := hr.get hj
            rcases q2 with ⟨e1, _⟩ | ⟨dd, rfl, _, q3⟩
            · rw [e1] at hv; simp at hv
            · exact ⟨a, dd, _, v, rfl, q1, q3, lookup_zip h.nd h.en hv, R' v H1 s1 rvv⟩
      | _ => exact False.elim R'
end RA
/-! RAR: list(range(n)), tuple(range(n)); x.clear(). -/
namespace RA
open PySem PySem.Spec PyProof.Rows L2
variable [Tabs] [LentT]
theorem rgt_dec {S : Stat} {sc : Scope} {e : Expr} {es : List Expr} (h : xtDec .rgt S sc e = some es) : ∃ y p z p2 a q pos, e = .Call (.Name y p) [.Call (.Name z p2) [a] [] q] [] pos ∧ es = [a] ∧ okB S sc "tuple" y = true ∧ okB S sc "range" z = true := by
  unfold xtDec at h
  split at h
  all_goals first | contradiction | (cases h; done) | skip
  split at h
  · rename_i hc
    cases h
    rw [Bool.and_eq_true] at hc
    exact ⟨_, _, _, _, _, _, _, rfl, rfl, hc.1, hc.2⟩
  · cases h
theorem reps_rg {c : Cfg} {Z : Addr → Prop} {H : Hp} {j : Int} : Reps c Z H (rangeD 0 j) (rgV 0 j) := by
  have h := Reps.ints (c := c) (B := Z) (H := H) (ns := (List.range (j - 0).toNat).map fun i : Nat => (0 : Int) + i)
  unfold rangeD rgV
  rw [List.map_map, List.map_map] at h
  exact h
theorem rgt_ok {S : Stat} {c : Cfg} : XtOk S c .rgt := by
  intro X O W sc B G e es as hc C hd hp
  subst hc
  obtain ⟨y, p, z, p2, a, q, pos, rfl, rfl, h1, h2⟩ := rgt_dec hd
  obtain ⟨rfl, hg, hm, hn, hdb⟩ := okB_of C h1
  obtain ⟨rfl, hg2, hm2, _, _⟩ := okB_of C h2
  cases hp with
  | cons ok pe rest =>
    cases rest
    rename_i x
    have hs : starEach [a] X.env = [(false, eval a X.env)] := star_cons (okE_plain ok)
    refine (pe_tupRg C.calm hg hm (prg_1 hg2 hm2 pe hs)).weak fun σ H Q hq => ?_
    simp only [evs] at hq
    refine one_read (T := fun v H1 => ∃ n, v = .int n ∧ RgOk 0 n ∧ ∀ q, H1 q = none → Q (.ref q) (upd H1 q (.tup (rgV 0 n)))) (Q := Q) (k := fun a => ((Rs.ok []).bind fun ds => Rs.ok (a :: ds)).bind (xtD S.F .rgt)) ?_ fun a v H1 ea s1 Su zt rv R => ?_
    · cases e : ev S.F x G with
      | no => rw [e] at hq; exact hq
      | ex n fs => rw [e] at hq; exact hq
      | ok a => rw [e] at hq; exact hq
    · obtain ⟨f, d⟩ := a
      cases d with
      | int j =>
        have R' : ResE (cfg X O) B (Zof B G σ) W σ H (if 0 ≤ j ∧ j ≤ 16777216 then .ok (.val, .tup (rangeD 0 j)) else .no) Q := R
        split at R'
        · rename_i hj
          refine ⟨j, rv.int, RgOk.of_le (by omega) hj.2 (by omega) hj.1, fun q hq => ?_⟩
          have n := newT (c := cfg X O) (Z := Zof B G σ) zt s1 hq (reps_rg (j := j))
          exact R' _ _ (s1.trans n.1) n.2
        · exact False.elim R'
      | _ => exact False.elim R
/-! ### x + y, lists of one's own -/
/-! ### list(d.values()), keys tuples -/
/-! ### list(d), keys tuples -/
/-! ### x.clear() -/
end RA
/-! W0: the small language, stepped: loops. -/
namespace RA
open PySem PySem.Spec PyProof.Rows L2
/-- no tables: for laws whose texts hold no def within a def -/
instance (priority := low) tabs0 : Tabs := ⟨[]⟩
instance (priority := low) lent0 : LentT := ⟨fun _ => 0⟩
/-- turns enough for every while of the text -/
def FUEL : Nat := 1000000000
/-- a def's mirror: its text in the small language, run -/
def mk (np nn : Nat) (F : FT) (ir : IS) : List RA.D → Rs (Bool × RA.D) := fun ds => if ds.length = np then run F FUEL nn ir ds else .no
theorem mk_run {np nn : Nat} {F : FT} {ir : IS} : ∀ ds, mk np nn F ir ds ≠ .no → ds.length = np ∧ ∃ fuel, run F fuel nn ir ds = mk np nn F ir ds := fun ds h => by
  unfold mk at h ⊢
  split at h
  · rename_i e
    exact ⟨e, FUEL, by rw [if_pos e]⟩
  · exact absurd rfl h
theorem mk_eq {np nn : Nat} {F : FT} {ir : IS} {ds : List RA.D} (h : ds.length = np) : mk np nn F ir ds = run F FUEL nn ir ds := if_pos h
/-! ### stepping -/
def seqO (o : Out) (f : Ev → Out) : Out := match o with
  | .nx G => f G
  | o => o
def fin (o : Out) : Rs (Bool × RA.D) := match o with
  | .nx _ => .ok (false, .non)
  | .rt o d => .ok (o, d)
  | .ex _ c fs => .ex c fs
  | _ => .no
/-- what an end is to be -/
def Sat (o : Out) (Q : Out → Prop) : Prop := Q o
/-- the body has gone through -/
def Thru (P : Ev → Prop) (o : Out) : Prop := match o with
  | .nx G => P G
  | .ct G => P G
  | _ => False
/-- a slot's value; an own list's -/
def valO : Option (Option (Bool × RA.D)) → Rs (Fl × RA.D)
  | some (some (false, d)) => .ok (.val, d)
  | _ => .no
def pkO : Option (Option (Bool × RA.D)) → Rs (Fl × RA.D)
  | some (some (true, d)) => .ok (.tmp, inn d)
  | _ => .no
def glO : Rs (Bool × RA.D) → Rs (Fl × RA.D)
  | .ok (_, d) => .ok (.val, d)
  | _ => .no
def negO : RA.D → Rs (Fl × RA.D)
  | .int i => .ok (.val, .int (-i))
  | _ => .no
def walkO (a : Fl × RA.D) : Rs (List RA.D) := if a.1 = .tmp then .no else match itemsD a.2 with | some ds => .ok ds | none => .no
def rng1O : RA.D → Rs (List RA.D)
  | .int j => if smallI j = true then .ok (rangeD 0 j) else .no
  | _ => .no
def rng2O : RA.D → RA.D → Rs (List RA.D)
  | .int i, .int j => if (smallI i && smallI j) = true then .ok (rangeD i j) else .no
  | _, _ => .no
def zipI : Option (List RA.D) → Option (List RA.D) → Rs (List RA.D)
  | some ds, some es => .ok (zipD ds es)
  | _, _ => .no
def zipO (a b : Fl × RA.D) : Rs (List RA.D) := if a.1 = .tmp ∨ b.1 = .tmp then .no else zipI (itemsD a.2) (itemsD b.2)
def revO (a : Fl × RA.D) : Rs (List RA.D) := if a.1 = .tmp then .no else match a.2 with | .lst ds => .ok ds.reverse | _ => .no
def frzO (G : Ev) (i : Nat) : Option (Option (Bool × RA.D)) → Out
  | some (some (true, d)) => if isLn d = true then .no else .nx (G.set i (some (false, d)))
  | _ => .no
def retO : Option (Option (Bool × RA.D)) → Out
  | some (some (true, d)) => if isLn d = true then .no else .rt true d
  | _ => .no
def appO (G : Ev) (i : Nat) (r : Rs (Fl × RA.D)) : Option (Option (Bool × RA.D)) → Out
  | some (some (true, .lst xs)) => r.out G fun r => if r.1 ≠ .tmp ∧ xs.length < sizeLine then .nx (G.set i (some (true, .lst (xs ++ [r.2])))) else .no
  | _ => .no
def putO (G : Ev) (i : Nat) (r q : Rs (Fl × RA.D)) : Option (Option (Bool × RA.D)) → Out
  | some (some (true, .lst xs)) => r.out G fun r => q.out G fun q => (match q.2 with
      | .int j => (match ixN xs.length j with | some m => (if r.1 = .tmp then .no else .nx (G.set i (some (true, .lst (xs.set m r.2))))) | none => .no)
      | _ => .no)
  | some (some (true, .dct kvs)) => r.out G fun r => q.out G fun q => (if r.1 ≠ .tmp ∧ keysOk kvs q.2 = true ∧ kvs.length < sizeLine then .nx (G.set i (some (true, .dct (dPut kvs q.2 r.2)))) else .no)
  | _ => .no
def dct1O (a b : Fl × RA.D) : Rs (Fl × RA.D) := if (keysOk [] a.2 && decide (b.1 ≠ .tmp)) = true then .ok (.own, .dct [(a.2, b.2)]) else .no
def augO (G : Ev) (i : Nat) (op : Bop) (r : Rs (Fl × RA.D)) : Option (Option (Bool × RA.D)) → Out
  | some (some (false, .int x)) => r.out G fun r => (match r.2 with
      | .int y => (match op with | .add => .nx (G.set i (some (false, .int (x + y)))) | .sub => .nx (G.set i (some (false, .int (x - y)))) | _ => .no)
      | _ => .no)
  | _ => .no
def tstO (F : FT) (t : IE) : Ev → Rs Bool := fun G => asB (ev F t G)
def unpO (G : Ev) (is : List Nat) (r : Fl × RA.D) : Out := if r.1 = .tmp then .no else (match bindT (.tup is) r.2 G with | some G' => .nx G' | none => .no)
section
variable {F : FT} {n N : Nat} {G : Ev} {Q : Out → Prop}
@[simp] theorem seqO_nx {f : Ev → Out} : seqO (.nx G) f = f G := (rfl)
@[simp] theorem seqO_no {f : Ev → Out} : seqO .no f = .no := (rfl)
@[simp] theorem seqO_rt {f : Ev → Out} {o : Bool} {d : RA.D} : seqO (.rt o d) f = .rt o d := (rfl)
@[simp] theorem seqO_ex {f : Ev → Out} {c : Nat} {fs : List RA.D} : seqO (.ex G c fs) f = .ex G c fs := (rfl)
@[simp] theorem seqO_bk {f : Ev → Out} : seqO (.bk G) f = .bk G := (rfl)
@[simp] theorem seqO_ct {f : Ev → Out} : seqO (.ct G) f = .ct G := (rfl)
@[simp] theorem seqO_seqO {o : Out} {f g : Ev → Out} : seqO (seqO o f) g = seqO o fun G => seqO (f G) g := by cases o <;> rfl
@[simp] theorem seqO_ite {c : Prop} [Decidable c] {a b : Out} {f : Ev → Out} : seqO (if c then a else b) f = if c then seqO a f else seqO b f := by split <;> rfl
@[simp] theorem sat_nx : Sat (.nx G) (fun o => fin o = .ok (false, .non)) ↔ True := by simp [Sat, fin]
@[simp] theorem sat_rt {o : Bool} {d : RA.D} {r : Rs (Bool × RA.D)} : Sat (.rt o d) (fun o => fin o = r) ↔ .ok (o, d) = r := Iff.rfl
@[simp] theorem sat_ex {c : Nat} {fs : List RA.D} {r : Rs (Bool × RA.D)} : Sat (.ex G c fs) (fun o => fin o = r) ↔ .ex c fs = r := Iff.rfl
@[simp] theorem sat_thru {P : Ev → Prop} : Sat (.nx G) (Thru P) ↔ P G := Iff.rfl
@[simp] theorem sat_thru_ct {P : Ev → Prop} : Sat (.ct G) (Thru P) ↔ P G := Iff.rfl
theorem run_fin {nn : Nat} {ir : IS} {ds : List RA.D} : run F n nn ir ds = fin (exec F n ir (startG nn ds)) := by
  unfold run fin
  cases exec F n ir (startG nn ds) <;> rfl
theorem mk_fin {np nn : Nat} {ir : IS} {ds : List RA.D} (hl : ds.length = np) : mk np nn F ir ds = fin (exec F FUEL ir (startG nn ds)) := (mk_eq hl).trans run_fin
theorem mk_of {np nn : Nat} {ir : IS} {ds : List RA.D} {r : Rs (Bool × RA.D)} (hl : ds.length = np) (h : Sat (exec F FUEL ir (startG nn ds)) fun o => fin o = r) : mk np nn F ir ds = r := (mk_fin hl).trans h
@[simp] theorem x_nil : exec F n .nil G = .nx G := (rfl)
@[simp] theorem x_seq {s r : IS} : exec F n (.seq s r) G = seqO (exec F n s G) (exec F n r) := (rfl)
@[simp] theorem x_set {i : Nat} {e : IE} : exec F n (.set i e) G = (ev F e G).out G fun r => if r.1 = .tmp then .no else .nx (G.set i (some (false, r.2))) := (rfl)
@[simp] theorem x_own {i : Nat} {e : IE} : exec F n (.own i e) G = (ev F e G).out G fun r => if r.1 = .own then .nx (G.set i (some (true, r.2))) else .no := (rfl)
@[simp] theorem x_do {e : IE} : exec F n (.do_ e) G = (ev F e G).out G fun _ => .nx G := (rfl)
@[simp] theorem x_if {t : IE} {a b : IS} : exec F n (.if_ t a b) G = (asB (ev F t G)).out G (fun x => (if x = true then exec F n a else exec F n b) G) := by
  show Rs.out G _ _ = _
  congr 1
  funext x
  split <;> rfl
@[simp] theorem x_for {tg : Tg} {it : II} {b : IS} : exec F n (.for_ tg it b) G = (evI F it G).out G fun ds => loopF tg (exec F n b) ds G := (rfl)
@[simp] theorem x_whl {t : IE} {b : IS} : exec F n (.whl t b) G = loopW (tstO F t) (exec F n b) n G := (rfl)
@[simp] theorem x_ret {e : IE} : exec F n (.ret e) G = (ev F e G).out G fun r => if r.1 = .tmp then .no else .rt (decide (r.1 = .own)) r.2 := (rfl)
@[simp] theorem x_retN : exec F n .retN G = .rt false .non := (rfl)
@[simp] theorem x_pass : exec F n .pass G = .nx G := (rfl)
@[simp] theorem x_brk : exec F n .brk G = .bk G := (rfl)
@[simp] theorem x_cnt : exec F n .cnt G = .ct G := (rfl)
@[simp] theorem x_rse {c : Nat} {x : Str} : exec F n (.rse c x) G = .ex G c [] := (rfl)
@[simp] theorem x_fgt {is : List Nat} : exec F n (.fgt is) G = .nx (forget is G) := (rfl)
@[simp] theorem x_frz {i : Nat} : exec F n (.frz i) G = frzO G i G[i]? := (rfl)
@[simp] theorem x_retp {i : Nat} : exec F n (.retp i) G = retO G[i]? := (rfl)
@[simp] theorem x_app {i : Nat} {e : IE} : exec F n (.app i e) G = appO G i (ev F e G) G[i]? := (rfl)
@[simp] theorem x_aug {i : Nat} {op : Bop} {e : IE} : exec F n (.aug i op e) G = augO G i op (ev F e G) G[i]? := (rfl)
@[simp] theorem x_unp {is : List Nat} {e : IE} : exec F n (.unp is e) G = (ev F e G).out G (unpO G is) := (rfl)
@[simp] theorem x_put {i : Nat} {k e : IE} : exec F n (.put i k e) G = putO G i (ev F e G) (ev F k G) G[i]? := (rfl)
theorem put_dct {i : Nat} {kvs : List (RA.D × RA.D)} {f g : Fl} {k d : RA.D} (hk : keysOk kvs k = true) (hl : kvs.length < sizeLine) : putO G i (.ok (f, d)) (.ok (g, k)) (some (some (true, .dct kvs))) = if f = .tmp then .no else .nx (G.set i (some (true, .dct (dPut kvs k d)))) := by
  by_cases h : f = .tmp <;> simp [putO, hk, hl, h]
@[simp] theorem e_v {i : Nat} : ev F (.v i) G = valO G[i]? := (rfl)
@[simp] theorem e_pk {i : Nat} : ev F (.pk i) G = pkO G[i]? := (rfl)
@[simp] theorem e_k {d : RA.D} : ev F (.k d) G = .ok (.val, d) := (rfl)
@[simp] theorem e_gl {m : Nat} : ev F (.gl m) G = glO (F m []) := (rfl)
@[simp] theorem e_b {op : Bop} {x y : IE} : ev F (.b op x y) G = (ev F x G).bind fun a => (ev F y G).bind fun b => binD op a.2 b.2 := (rfl)
@[simp] theorem e_neg {x : IE} : ev F (.neg x) G = (ev F x G).bind fun a => negO a.2 := (rfl)
@[simp] theorem e_cmp {op : Cop} {x y : IE} : ev F (.cmp op x y) G = (ev F x G).bind fun a => (ev F y G).bind fun b => (cmpD op a.2 b.2).bind fun r => .ok (.val, .bl r) := (rfl)
@[simp] theorem e_and {x y : IE} : ev F (.and_ x y) G = (asB (ev F x G)).bind fun a => (if a = true then ev F y G else .ok (.val, .bl false)) := (rfl)
@[simp] theorem e_or {x y : IE} : ev F (.or_ x y) G = (asB (ev F x G)).bind fun a => (if a = true then .ok (.val, .bl true) else ev F y G) := (rfl)
@[simp] theorem e_not {x : IE} : ev F (.not_ x) G = (asB (ev F x G)).bind fun a => .ok (.val, .bl (!a)) := (rfl)
@[simp] theorem e_ife {t x y : IE} : ev F (.ife t x y) G = (asB (ev F t G)).bind fun a => (if a = true then ev F x G else ev F y G) := (rfl)
@[simp] theorem e_tup {as : IEs} : ev F (.tup as) G = (evs F as G).bind fun ds => (if keepOk ds = true ∧ ds.length ≤ 1000 then .ok (.val, .tup (ds.map (·.2))) else .no) := (rfl)
@[simp] theorem e_lst {as : IEs} : ev F (.lst as) G = (evs F as G).bind fun ds => (if keepOk ds = true ∧ ds.length ≤ 1000 then .ok (.own, .lst (ds.map (·.2))) else .no) := (rfl)
@[simp] theorem e_dct : ev F (.dct .nil .nil) G = .ok (.own, .dct []) := (rfl)
theorem putAll_one (a b : Fl × RA.D) : (match putAll [a] [b] [] with | some kvs => Rs.ok (Fl.own, RA.D.dct kvs) | none => .no) = dct1O a b := by
  unfold dct1O
  have e : putAll [a] [b] [] = if (keysOk [] a.2 && decide (b.1 ≠ .tmp)) = true then some [(a.2, b.2)] else none := rfl
  rw [e]
  by_cases h : (keysOk [] a.2 && decide (b.1 ≠ .tmp)) = true
  · rw [if_pos h, if_pos h]
  · rw [if_neg h, if_neg h]
@[simp] theorem e_dct1 {k v : IE} : ev F (.dct (.cons k .nil) (.cons v .nil)) G = (ev F k G).bind fun a => (ev F v G).bind fun b => dct1O a b := by
  simp only [ev, evs]
  cases ev F k G with
  | ok a => cases ev F v G with
    | ok b => exact putAll_one a b
    | _ => rfl
  | _ => rfl
@[simp] theorem e_lset {x : IE} : ev F (.lset x) G = (ev F x G).bind fun a => lsetD a.2 := (rfl)
@[simp] theorem e_ix {x i : IE} : ev F (.ix x i) G = (ev F x G).bind fun a => (ev F i G).bind fun b => (ixD a.2 b.2).bind fun d => .ok (.val, d) := (rfl)
@[simp] theorem e_sl {x lo hi : IE} : ev F (.sl x lo hi) G = (ev F x G).bind fun a => (prt (isOut lo) (ev F lo G)).bind fun l => (prt (isOut hi) (ev F hi G)).bind fun h => slD a.2 l h := (rfl)
@[simp] theorem e_rv {x : IE} : ev F (.rv x) G = (ev F x G).bind fun a => rvD a.2 := (rfl)
@[simp] theorem rv_lst {xs : List RA.D} : rvD (.lst xs) = .ok (.own, .lst xs.reverse) := (rfl)
@[simp] theorem rv_sign {s : List Nat} (hs : s.length ≤ sizeLine) : rvD (.str s) = .ok (.val, .str s.reverse) := if_pos hs
@[simp] theorem e_xt {t : XT} {as : IEs} : ev F (.xt t as) G = (evs F as G).bind (xtD F t) := (rfl)
@[simp] theorem isc_non {y : Str} {ys ns : List Nat} {f : Fl} : xtD F (.isc y ys ns) [(f, .non)] = .ok (.val, .bl false) := (rfl)
theorem isc_opq {y : Str} {ys ns : List Nat} {f : Fl} {k : Nat} {cs : List RA.D} : xtD F (.isc y ys ns) [(f, .opq k cs)] = if ys.contains k = true then .ok (.val, .bl true) else if ns.contains k = true then .ok (.val, .bl false) else .no := (rfl)
theorem fld_opq {k j : Nat} {f : Str} {g : Fl} {cs : List RA.D} {d : RA.D} (h : cs[j]? = some d) : xtD F (.fld k j f) [(g, .opq k cs)] = .ok (.val, d) := by simp [xtD, h]
@[simp] theorem x_xs {c k : Nat} {x : Str} {as : IEs} : exec F n (.xs (.rsx c x k) as) G = (evs F as G).out G (ytD F (.rsx c x k) G) := (rfl)
@[simp] theorem x_clr {i : Nat} {as : IEs} : exec F n (.xs (.clr i) as) G = (evs F as G).out G (ytD F (.clr i) G) := (rfl)
@[simp] theorem x_unl {is : List Nat} {as : IEs} : exec F n (.xs (.unl is) as) G = (evs F as G).out G (ytD F (.unl is) G) := (rfl)
@[simp] theorem x_pop {i j : Nat} {as : IEs} : exec F n (.xs (.pop i j) as) G = (evs F as G).out G (ytD F (.pop i j) G) := (rfl)
@[simp] theorem x_popd {i : Nat} {as : IEs} : exec F n (.xs (.popd i) as) G = (evs F as G).out G (ytD F (.popd i) G) := (rfl)
@[simp] theorem x_try {b : IS} {y : Str} {ys ns : List Nat} {h : Hd} : exec F n (.try_ b y ys ns h) G = tryO ys ns h (exec F n b G) := (rfl)
@[simp] theorem tryO_nx {ys ns : List Nat} {h : Hd} : tryO ys ns h (.nx G) = .nx G := (rfl)
@[simp] theorem tryO_rt {ys ns : List Nat} {h : Hd} {o : Bool} {d : RA.D} : tryO ys ns h (.rt o d) = .rt o d := (rfl)
theorem tryO_ex {ys ns : List Nat} {h : Hd} {c : Nat} {fs : List RA.D} : tryO ys ns h (.ex G c fs) = if ys.contains c = true then .nx (hdG h c fs G) else if ns.contains c = true then .ex G c fs else .no := (rfl)
@[simp] theorem hdG_as {i j c : Nat} {fs : List RA.D} : hdG (.as i j) c fs G = ((G.set i (some (false, .opq c fs))).set j (some (false, .opq c fs))).set i none := (rfl)
@[simp] theorem hdG_cst {j c : Nat} {d : RA.D} {fs : List RA.D} : hdG (.cst j d) c fs G = G.set j (some (false, d)) := (rfl)
theorem isNon_non : isNon .non = true := (rfl)
theorem isNon_str {s : List Nat} : isNon (.str s) = false := (rfl)
theorem isNon_int {i : Int} : isNon (.int i) = false := (rfl)
theorem isNon_bl {i : Bool} : isNon (.bl i) = false := (rfl)
theorem isNon_tup {xs : List RA.D} : isNon (.tup xs) = false := (rfl)
theorem isNon_lst {xs : List RA.D} : isNon (.lst xs) = false := (rfl)
theorem isNon_opq {n : Nat} {xs : List RA.D} : isNon (.opq n xs) = false := (rfl)
theorem fin_nx : fin (.nx G) = .ok (false, .non) := (rfl)
theorem fin_rt {o : Bool} {d : RA.D} : fin (.rt o d) = .ok (o, d) := (rfl)
theorem fin_ex {c : Nat} {fs : List RA.D} : fin (.ex G c fs) = .ex c fs := (rfl)
@[simp] theorem e_out : ev F .out G = .ok (.val, .non) := (rfl)
@[simp] theorem e_bi {f : Bf} {as : IEs} : ev F (.bi f as) G = (evs F as G).bind fun ds => biD f (ds.map (·.2)) := (rfl)
@[simp] theorem e_me {m : Mf} {o : IE} {as : IEs} : ev F (.me m o as) G = (ev F o G).bind fun a => (if recvOk a.2 = true then (evs F as G).bind fun ds => meD m a.2 (ds.map (·.2)) else .no) := (rfl)
@[simp] theorem e_call {m : Nat} {as : IEs} : ev F (.call m as) G = (evs F as G).bind fun ds => (if keepOk ds = true then (F m (ds.map (·.2))).bind fun r => .ok (if r.1 = true then .own else .val, r.2) else (F m (ds.map (·.2))).quiet.bind fun r => if lendOk r = true then .ok (if r.1 = true then .own else .val, r.2) else .no) := (rfl)
@[simp] theorem e_comp {tg : Tg} {it : II} {t e : IE} : ev F (.comp tg it t e) G = (evI F it G).bind fun ds => (if (tgSlots tg).all (freeAt G) = true ∧ ds.length < sizeLine then ((compGo (tstO F t) (ev F e) tg (forget (tgSlots tg) G) ds).quiet).bind fun rs => .ok (.own, .lst rs) else .no) := (rfl)
@[simp] theorem es_nil : evs F .nil G = .ok [] := (rfl)
@[simp] theorem es_cons {x : IE} {as : IEs} : evs F (.cons x as) G = (ev F x G).bind fun a => (evs F as G).bind fun ds => .ok (a :: ds) := (rfl)
@[simp] theorem i_ex {x : IE} : evI F (.ex x) G = (ev F x G).bind walkO := (rfl)
@[simp] theorem i_rng1 {x : IE} : evI F (.rng1 x) G = (ev F x G).bind fun a => rng1O a.2 := (rfl)
@[simp] theorem i_rng2 {x y : IE} : evI F (.rng2 x y) G = (ev F x G).bind fun a => (ev F y G).bind fun b => rng2O a.2 b.2 := (rfl)
@[simp] theorem i_zip {x y : IE} : evI F (.zip2 x y) G = (ev F x G).bind fun a => (ev F y G).bind fun b => zipO a b := (rfl)
@[simp] theorem i_rev {x : IE} : evI F (.rev x) G = (ev F x G).bind revO := (rfl)
@[simp] theorem tstO_eq {t : IE} : tstO F t G = asB (ev F t G) := (rfl)
@[simp] theorem valO_ok {d : RA.D} : valO (some (some (false, d))) = .ok (.val, d) := (rfl)
@[simp] theorem pkO_ok {d : RA.D} : pkO (some (some (true, d))) = .ok (.tmp, inn d) := (rfl)
@[simp] theorem inn_lst {ds : List RA.D} : inn (.lst ds) = .lst ds := (rfl)
@[simp] theorem inn_dct {ds : List (RA.D × RA.D)} : inn (.dct ds) = .dct ds := (rfl)
@[simp] theorem inn_ln {k : Nat} {ds : List RA.D} : inn (LN k ds) = .lst ds := (rfl)
@[simp] theorem isLn_lst {ds : List RA.D} : isLn (.lst ds) = false := (rfl)
@[simp] theorem isLn_dct {ds : List (RA.D × RA.D)} : isLn (.dct ds) = false := (rfl)
@[simp] theorem glO_ok {b : Bool} {d : RA.D} : glO (.ok (b, d)) = .ok (.val, d) := (rfl)
@[simp] theorem negO_ok {i : Int} : negO (.int i) = .ok (.val, .int (-i)) := (rfl)
@[simp] theorem frzO_ok {i : Nat} {d : RA.D} : frzO G i (some (some (true, d))) = if isLn d = true then .no else .nx (G.set i (some (false, d))) := (rfl)
@[simp] theorem retO_ok {d : RA.D} : retO (some (some (true, d))) = if isLn d = true then .no else .rt true d := (rfl)
@[simp] theorem augO_add {i : Nat} {f : Fl} {x y : Int} : augO G i .add (.ok (f, .int y)) (some (some (false, .int x))) = .nx (G.set i (some (false, .int (x + y)))) := (rfl)
@[simp] theorem augO_sub {i : Nat} {f : Fl} {x y : Int} : augO G i .sub (.ok (f, .int y)) (some (some (false, .int x))) = .nx (G.set i (some (false, .int (x - y)))) := (rfl)
@[simp] theorem appO_ok {i : Nat} {f : Fl} {d : RA.D} {xs : List RA.D} (hf : f ≠ .tmp) (hl : xs.length < sizeLine) : appO G i (.ok (f, d)) (some (some (true, .lst xs))) = .nx (G.set i (some (true, .lst (xs ++ [d])))) := if_pos ⟨hf, hl⟩
@[simp] theorem unpO_ok {is : List Nat} {ds : List RA.D} {f : Fl} (hf : f ≠ .tmp) (hl : is.length = ds.length) : unpO G is (f, .tup ds) = .nx (setAll is ds G) := by simp [unpO, hf, bindT, hl]
@[simp] theorem walkO_lst {f : Fl} {ds : List RA.D} (hf : f ≠ .tmp) : walkO (f, .lst ds) = .ok ds := by simp [walkO, hf, itemsD]
@[simp] theorem walkO_tup {f : Fl} {ds : List RA.D} (hf : f ≠ .tmp) : walkO (f, .tup ds) = .ok ds := by simp [walkO, hf, itemsD]
@[simp] theorem walkO_str {f : Fl} {s : List Nat} (hf : f ≠ .tmp) : walkO (f, .str s) = .ok (s.map fun ch => .str [ch]) := by simp [walkO, hf, itemsD]
@[simp] theorem rng1O_ok {j : Int} (h : smallI j = true) : rng1O (.int j) = .ok (rangeD 0 j) := if_pos h
@[simp] theorem rng2O_ok {i j : Int} (h : smallI i = true) (h2 : smallI j = true) : rng2O (.int i) (.int j) = .ok (rangeD i j) := if_pos (by rw [h, h2]; rfl)
@[simp] theorem zipO_ok {f g : Fl} {d e : RA.D} (hf : f ≠ .tmp) (hg : g ≠ .tmp) : zipO (f, d) (g, e) = zipI (itemsD d) (itemsD e) := by simp [zipO, hf, hg]
@[simp] theorem zipI_ok {ds es : List RA.D} : zipI (some ds) (some es) = .ok (zipD ds es) := (rfl)
@[simp] theorem revO_ok {f : Fl} {ds : List RA.D} (hf : f ≠ .tmp) : revO (f, .lst ds) = .ok ds.reverse := by simp [revO, hf]
theorem small_nat {k : Nat} (h : k < 4611686018427387904) : smallI k = true := by
  unfold smallI
  have e : (2 : Int) ^ 62 = 4611686018427387904 := by decide
  rw [e]
  exact decide_eq_true (by omega)
theorem small_int {k : Int} (h : 0 ≤ k) (h2 : k < 4611686018427387904) : smallI k = true := by
  unfold smallI
  have e : (2 : Int) ^ 62 = 4611686018427387904 := by decide
  rw [e]
  exact decide_eq_true (by omega)
theorem geta {α : Type} {xs : List α} {i : Nat} {d : α} (h : xs[i]? = some d) : atI xs (i : Int) = some d := atI_nat h
@[simp] theorem asB_ok {f : Fl} {b : Bool} : asB (.ok (f, .bl b)) = .ok b := (rfl)
@[simp] theorem items_lst {xs : List RA.D} : itemsD (.lst xs) = some xs := (rfl)
@[simp] theorem items_tup {xs : List RA.D} : itemsD (.tup xs) = some xs := (rfl)
@[simp] theorem items_str {s : List Nat} : itemsD (.str s) = some (s.map fun ch => .str [ch]) := (rfl)
@[simp] theorem bindT_one {i : Nat} {d : RA.D} : bindT (.one i) d G = some (G.set i (some (false, d))) := (rfl)
@[simp] theorem bindT_tup {is : List Nat} {ds : List RA.D} : bindT (.tup is) (.tup ds) G = if is.length = ds.length then some (setAll is ds G) else none := (rfl)
@[simp] theorem setAll_nil {ds : List RA.D} : setAll [] ds G = G := by simp [setAll]
@[simp] theorem setAll_cons {i : Nat} {is : List Nat} {d : RA.D} {ds : List RA.D} : setAll (i :: is) (d :: ds) G = setAll is ds (G.set i (some (false, d))) := (rfl)
@[simp] theorem forget_nil : forget [] G = G := (rfl)
@[simp] theorem forget_cons {i : Nat} {is : List Nat} : forget (i :: is) G = (forget is G).set i none := (rfl)
@[simp] theorem isOut_out : isOut .out = true := (rfl)
@[simp] theorem prt_int {b : Bool} {f : Fl} {i : Int} : prt b (.ok (f, .int i)) = .ok (some i) := (rfl)
@[simp] theorem prt_out {f : Fl} : prt true (.ok (f, .non)) = .ok none := (rfl)
@[simp] theorem keepOk_nil : keepOk [] = true := (rfl)
@[simp] theorem keepOk_cons {x : Fl × RA.D} {xs : List (Fl × RA.D)} : keepOk (x :: xs) = (decide (x.1 ≠ .tmp) && keepOk xs) := (rfl)
@[simp] theorem recv_str {s : List Nat} : recvOk (.str s) = true := (rfl)
@[simp] theorem b_add {i j : Int} : binD .add (.int i) (.int j) = .ok (.val, .int (i + j)) := (rfl)
@[simp] theorem b_sub {i j : Int} : binD .sub (.int i) (.int j) = .ok (.val, .int (i - j)) := (rfl)
theorem b_mul {i j : Int} (h : (-(2 ^ 64) < i ∧ i < 2 ^ 64) ∨ (-(2 ^ 64) < j ∧ j < 2 ^ 64)) : binD .mul (.int i) (.int j) = .ok (.val, .int (i * j)) := if_pos (decide_eq_true h)
theorem b_mulR {i j : Int} (h1 : 0 ≤ j) (h2 : j < 18446744073709551616) : binD .mul (.int i) (.int j) = .ok (.val, .int (i * j)) := b_mul (.inr (by omega))
theorem b_mulL {i j : Int} (h1 : 0 ≤ i) (h2 : i < 18446744073709551616) : binD .mul (.int i) (.int j) = .ok (.val, .int (i * j)) := b_mul (.inl (by omega))
@[simp] theorem b_fdiv {i j : Int} (h1 : 0 < j) (h2 : j < 1073741824) : binD .fdiv (.int i) (.int j) = .ok (.val, .int (i / j)) := if_pos ⟨h1, h2⟩
@[simp] theorem b_mod {i j : Int} (h1 : 0 < j) : binD .mod (.int i) (.int j) = .ok (.val, .int (i % j)) := if_pos h1
@[simp] theorem b_cat {s t : List Nat} (h : s.length + t.length ≤ sizeLine) : binD .add (.str s) (.str t) = .ok (.val, .str (s ++ t)) := if_pos h
@[simp] theorem c_lt {i j : Int} : cmpD .lt (.int i) (.int j) = .ok (decide (i < j)) := (rfl)
@[simp] theorem c_le {i j : Int} : cmpD .le (.int i) (.int j) = .ok (decide (i ≤ j)) := (rfl)
@[simp] theorem c_gt {i j : Int} : cmpD .gt (.int i) (.int j) = .ok (decide (j < i)) := (rfl)
@[simp] theorem c_ge {i j : Int} : cmpD .ge (.int i) (.int j) = .ok (decide (j ≤ i)) := (rfl)
@[simp] theorem c_ltS {i j : List Nat} : cmpD .lt (.str i) (.str j) = .ok (decide (i < j)) := (rfl)
@[simp] theorem c_gtS {i j : List Nat} : cmpD .gt (.str i) (.str j) = .ok (decide (j < i)) := (rfl)
@[simp] theorem c_eqI {i j : Int} : cmpD .eq (.int i) (.int j) = .ok (decide (i = j)) := (rfl)
@[simp] theorem c_neI {i j : Int} : cmpD .ne (.int i) (.int j) = .ok (!decide (i = j)) := (rfl)
@[simp] theorem c_eqS {i j : List Nat} : cmpD .eq (.str i) (.str j) = .ok (decide (i = j)) := (rfl)
@[simp] theorem c_neS {i j : List Nat} : cmpD .ne (.str i) (.str j) = .ok (!decide (i = j)) := (rfl)
@[simp] theorem c_eqB {i j : Bool} : cmpD .eq (.bl i) (.bl j) = .ok (decide (i = j)) := (rfl)
@[simp] theorem c_neB {i j : Bool} : cmpD .ne (.bl i) (.bl j) = .ok (!decide (i = j)) := (rfl)
@[simp] theorem c_isn {x : RA.D} : cmpD .isn x .non = .ok (isNon x) := by cases x <;> rfl
@[simp] theorem c_isnt {x : RA.D} : cmpD .isnt x .non = .ok (!isNon x) := by cases x <;> rfl
@[simp] theorem c_memS {ch : Nat} {s : List Nat} : cmpD .mem (.str [ch]) (.str s) = .ok (decide (ch ∈ s)) := (rfl)
@[simp] theorem c_nmemS {ch : Nat} {s : List Nat} : cmpD .nmem (.str [ch]) (.str s) = .ok (!decide (ch ∈ s)) := (rfl)
theorem c_nmemD {k : RA.D} {kvs : List (RA.D × RA.D)} (h : keysOk kvs k = true) : cmpD .nmem k (.dct kvs) = .ok (!(dGet kvs k).isSome) := by
  show (memD k (.dct kvs)).bind _ = _
  simp only [memD, h, if_true, Rs.bind_ok]
theorem ix_dct {k d : RA.D} {kvs : List (RA.D × RA.D)} (h : keysOk kvs k = true) (hd : dGet kvs k = some d) : ixD (.dct kvs) k = .ok d := by simp only [ixD, h, hd, if_true]
@[simp] theorem ix_lst {xs : List RA.D} {i : Int} {d : RA.D} (h : atI xs i = some d) : ixD (.lst xs) (.int i) = .ok d := by simp only [ixD, h]
@[simp] theorem ix_tup {xs : List RA.D} {i : Int} {d : RA.D} (h : atI xs i = some d) : ixD (.tup xs) (.int i) = .ok d := by simp only [ixD, h]
@[simp] theorem ix_sign {s : List Nat} {i : Int} {ch : Nat} (hs : s.length ≤ sizeLine) (h : atI s i = some ch) : ixD (.str s) (.int i) = .ok (.str [ch]) := by simp only [ixD, h, if_pos hs]
@[simp] theorem sl_lst {xs : List RA.D} {lo hi : Option Int} : slD (.lst xs) lo hi = .ok (.own, .lst (cutD xs lo hi)) := (rfl)
@[simp] theorem sl_sign {s : List Nat} {lo hi : Option Int} (hs : s.length ≤ sizeLine) : slD (.str s) lo hi = .ok (.val, .str (cutD s lo hi)) := if_pos hs
@[simp] theorem len_str {s : List Nat} (hs : s.length ≤ sizeLine) : biD .len [.str s] = .ok (.val, .int s.length) := if_pos hs
@[simp] theorem len_lst {xs : List RA.D} : biD .len [.lst xs] = .ok (.val, .int xs.length) := (rfl)
@[simp] theorem len_tup {xs : List RA.D} : biD .len [.tup xs] = .ok (.val, .int xs.length) := (rfl)
@[simp] theorem max_two {i j : Int} : biD .max [.int i, .int j] = .ok (.val, .int (if j > i then j else i)) := (rfl)
@[simp] theorem min_two {i j : Int} : biD .min [.int i, .int j] = .ok (.val, .int (if j < i then j else i)) := (rfl)
@[simp] theorem is_str {s : List Nat} : biD .isStr [.str s] = .ok (.val, .bl true) := (rfl)
@[simp] theorem is_intI {s : Int} : biD .isInt [.int s] = .ok (.val, .bl true) := (rfl)
@[simp] theorem is_boolI {s : Int} : biD .isBool [.int s] = .ok (.val, .bl false) := (rfl)
@[simp] theorem is_boolB {s : Bool} : biD .isBool [.bl s] = .ok (.val, .bl true) := (rfl)
@[simp] theorem tuple_lst {xs : List RA.D} : biD .tuple [.lst xs] = .ok (.val, .tup xs) := (rfl)
@[simp] theorem list_lst {xs : List RA.D} : biD .list [.lst xs] = .ok (.own, .lst xs) := (rfl)
@[simp] theorem list_tup {xs : List RA.D} : biD .list [.tup xs] = .ok (.own, .lst xs) := (rfl)
@[simp] theorem find_one {s : List Nat} {ch : Nat} : meD .find (.str s) [.str [ch]] = .ok (.val, .int (findL s ch)) := (rfl)
end
/-- it goes on to the next, in a state of which P tells -/
def Nxt (P : Ev → Prop) (o : Out) : Prop := match o with
  | .nx G => P G
  | _ => False
@[simp] theorem sat_nxt {P : Ev → Prop} {G : Ev} : Sat (.nx G) (Nxt P) ↔ P G := Iff.rfl
/-- a while with a measure -/
theorem for_ix {tg : Tg} {b : Ev → Out} {f : Ev → Out} {Q : Out → Prop} {ds : List RA.D} {G : Ev} (Inv : Nat → Ev → Prop) (i0 : Inv 0 G)
    (h : ∀ i d G, ds[i]? = some d → Inv i G → ∃ G', bindT tg d G = some G' ∧ Sat (b G') (Thru (Inv (i + 1)))) (k : ∀ G', Inv ds.length G' → Sat (f G') Q) : Sat (seqO (loopF tg b ds G) f) Q := by
  have key : ∀ (rest : List RA.D) (i : Nat) (G : Ev), ds.drop i = rest → Inv i G → i + rest.length = ds.length → ∃ G', loopF tg b rest G = .nx G' ∧ Inv ds.length G' := by
    intro rest
    induction rest with
    | nil => intro i G e hi hl; exact ⟨G, rfl, by rw [← hl]; exact hi⟩
    | cons d rest ih =>
      intro i G e hi hl
      have hd : ds[i]? = some d := by rw [← List.head?_drop, e]; rfl
      obtain ⟨G', h1, h2⟩ := h i d G hd hi
      have e' : ds.drop (i + 1) = rest := by rw [← List.drop_drop, e]; rfl
      have hl' : i + 1 + rest.length = ds.length := by rw [← hl, List.length_cons]; omega
      cases eb : b G' with
      | nx G2 =>
        rw [eb] at h2
        obtain ⟨G3, h4, h5⟩ := ih (i + 1) G2 e' h2 hl'
        exact ⟨G3, by unfold loopF; rw [h1]; dsimp only; rw [eb]; exact h4, h5⟩
      | ct G2 =>
        rw [eb] at h2
        obtain ⟨G3, h4, h5⟩ := ih (i + 1) G2 e' h2 hl'
        exact ⟨G3, by unfold loopF; rw [h1]; dsimp only; rw [eb]; exact h4, h5⟩
      | _ => rw [eb] at h2; exact False.elim h2
  obtain ⟨G', h1, h2⟩ := key ds 0 G rfl i0 (by simp)
  rw [h1]
  exact k G' h2
/-- one turn: it goes on, or it is the end -/
def Turn1 (P : Ev → Prop) (Q : Out → Prop) (o : Out) : Prop := match o with
  | .nx G => P G
  | .ct G => P G
  | .rt b d => Q (.rt b d)
  | .ex G c fs => Q (.ex G c fs)
  | _ => False
@[simp] theorem sat_t1 {P : Ev → Prop} {Q : Out → Prop} {G : Ev} : Sat (.nx G) (Turn1 P Q) ↔ P G := Iff.rfl
@[simp] theorem sat_t1c {P : Ev → Prop} {Q : Out → Prop} {G : Ev} : Sat (.ct G) (Turn1 P Q) ↔ P G := Iff.rfl
@[simp] theorem sat_t1r {P : Ev → Prop} {Q : Out → Prop} {b : Bool} {d : RA.D} : Sat (.rt b d) (Turn1 P Q) ↔ Q (.rt b d) := Iff.rfl
@[simp] theorem sat_t1e {P : Ev → Prop} {Q : Out → Prop} {G : Ev} {c : Nat} {fs : List RA.D} : Sat (.ex G c fs) (Turn1 P Q) ↔ Q (.ex G c fs) := Iff.rfl
theorem range_get {lo hi : Int} {i : Nat} {d : RA.D} (h : (rangeD lo hi)[i]? = some d) : d = .int (lo + i) ∧ (i : Int) < hi - lo := by
  unfold rangeD at h
  rw [List.getElem?_map] at h
  cases e : (List.range (hi - lo).toNat)[i]? with
  | none => rw [e] at h; cases h
  | some j =>
    rw [e] at h
    obtain ⟨h1, h2⟩ := List.getElem?_eq_some_iff.mp e
    rw [List.getElem_range] at h2
    rw [List.length_range] at h1
    subst h2
    exact ⟨(Option.some.inj h).symm, by omega⟩
theorem range_len {lo hi : Int} : (rangeD lo hi).length = (hi - lo).toNat := by unfold rangeD; rw [List.length_map, List.length_range]
theorem map_get {α : Type} {xs : List α} {f : α → RA.D} {i : Nat} {d : RA.D} (h : (xs.map f)[i]? = some d) : ∃ x, xs[i]? = some x ∧ d = f x := by
  rw [List.getElem?_map] at h
  cases e : xs[i]? with
  | none => rw [e] at h; cases h
  | some x => rw [e] at h; exact ⟨x, rfl, (Option.some.inj h).symm⟩
theorem cut_to {α : Type} {xs : List α} {k : Nat} : cutD xs none (some (k : Int)) = xs.take k := by
  unfold cutD
  rw [HT.sIx_none, HT.sIx_nat, List.drop_zero, Nat.sub_zero]
  by_cases h : k ≤ xs.length
  · rw [Nat.min_eq_left h]
  · rw [Nat.min_eq_right (by omega), List.take_length, List.take_of_length_le (by omega)]
theorem cut_from {α : Type} {xs : List α} {k : Nat} : cutD xs (some (k : Int)) none = xs.drop k := by
  unfold cutD
  rw [HT.sIx_none, HT.sIx_nat]
  by_cases h : k ≤ xs.length
  · rw [Nat.min_eq_left h, List.take_of_length_le (by rw [List.length_drop]; exact Nat.le_refl _)]
  · rw [Nat.min_eq_right (by omega), List.drop_length, List.drop_of_length_le (by omega)]; simp
/-! ### dicts by their keys -/
def kv {α : Type} (f : α → RA.D) (l : List (α × RA.D)) : List (RA.D × RA.D) := l.map fun p => (f p.1, p.2)
structure KeyF {α : Type} [DecidableEq α] (f : α → RA.D) : Prop where
  eq : ∀ a b, keyEq (f a) (f b) = decide (a = b)
  ok : ∀ l a, keysOk (kv f l) (f a) = true
  len : ∀ l, biD .len [.dct (kv f l)] = .ok (.val, .int l.length)
/-- what stands for a -/
def lk {α : Type} [DecidableEq α] (l : List (α × RA.D)) (a : α) : Option RA.D := (l.find? fun p => decide (p.1 = a)).map (·.2)
section
variable {α : Type} [DecidableEq α] {f : α → RA.D}
theorem kv_app {l m : List (α × RA.D)} : kv f (l ++ m) = kv f l ++ kv f m := List.map_append
theorem kv_len {l : List (α × RA.D)} : (kv f l).length = l.length := List.length_map ..
theorem kv_get (K : KeyF f) (a : α) : ∀ l : List (α × RA.D), dGet (kv f l) (f a) = lk l a
  | [] => rfl
  | (b, d) :: l => by
    have ih := kv_get K a l
    unfold dGet lk kv at ih ⊢
    rw [List.map_cons, List.find?_cons, List.find?_cons]
    dsimp only
    rw [K.eq]
    cases decide (b = a) with
    | true => rfl
    | false => exact ih
theorem lk_none {l : List (α × RA.D)} {a : α} (h : a ∉ l.map (·.1)) : lk l a = none := by
  unfold lk
  rw [List.find?_eq_none.mpr]; rfl
  intro x hx e
  exact h (List.mem_map.mpr ⟨x, hx, of_decide_eq_true e⟩)
theorem lk_some {l : List (α × RA.D)} {a : α} (h : a ∈ l.map (·.1)) : ∃ d, lk l a = some d ∧ (a, d) ∈ l := by
  unfold lk
  cases e : l.find? fun p => decide (p.1 = a) with
  | none =>
    obtain ⟨x, hx, rfl⟩ := List.mem_map.mp h
    exact absurd (decide_eq_true rfl) (List.find?_eq_none.mp e x hx)
  | some x =>
    have h1 := List.find?_some e
    have h2 := List.mem_of_find?_eq_some e
    refine ⟨x.2, rfl, ?_⟩
    have : x.1 = a := of_decide_eq_true h1
    rw [← this]; exact h2
theorem lk_isSome {l : List (α × RA.D)} {a : α} : (lk l a).isSome = decide (a ∈ l.map (·.1)) := by
  by_cases h : a ∈ l.map (·.1)
  · obtain ⟨d, e, _⟩ := lk_some h
    rw [e, decide_eq_true h]; rfl
  · rw [lk_none h, decide_eq_false h]; rfl
theorem kv_put (K : KeyF f) {a : α} {l : List (α × RA.D)} (h : a ∉ l.map (·.1)) (v : RA.D) : dPut (kv f l) (f a) v = kv f (l ++ [(a, v)]) := by
  have e : ((kv f l).any fun x => keyEq x.1 (f a)) = false := by
    rw [List.any_eq_false]
    intro x hx
    obtain ⟨p, hp, rfl⟩ := List.mem_map.mp hx
    rw [K.eq]
    intro z
    exact h (List.mem_map.mpr ⟨p, hp, of_decide_eq_true z⟩)
  unfold dPut
  rw [e, if_neg Bool.false_ne_true, kv_app]; rfl
theorem kv_nmem (K : KeyF f) {l : List (α × RA.D)} {a : α} : cmpD .nmem (f a) (.dct (kv f l)) = .ok (!decide (a ∈ l.map (·.1))) := by rw [c_nmemD (K.ok l a), kv_get K, lk_isSome]
theorem kv_ix (K : KeyF f) {l : List (α × RA.D)} {a : α} {d : RA.D} (h : lk l a = some d) : ixD (.dct (kv f l)) (f a) = .ok d := ix_dct (K.ok l a) (by rw [kv_get K, h])
theorem kv_putO (K : KeyF f) {G : Ev} {i : Nat} {l : List (α × RA.D)} {x g : Fl} {a : α} {d : RA.D} (hl : l.length < sizeLine) (h : a ∉ l.map (·.1)) : putO G i (.ok (x, d)) (.ok (g, f a)) (some (some (true, .dct (kv f l)))) = if x = .tmp then .no else .nx (G.set i (some (true, .dct (kv f (l ++ [(a, d)]))))) := by
  rw [put_dct (K.ok l a) (by rw [kv_len]; exact hl), kv_put K h]
theorem kv_one (K : KeyF f) {a : α} {g x : Fl} {d : RA.D} : dct1O (g, f a) (x, d) = if x = .tmp then .no else .ok (.own, .dct (kv f [(a, d)])) := by
  have := K.ok [] a
  unfold dct1O
  rw [show keysOk [] (f a) = true from this]
  cases x <;> rfl
end
end RA
/-! W1: words. -/
namespace RA
open PySem PySem.Spec PyProof.Rows L2
theorem line_big {n : Nat} (h : n ≤ 16777216) : n ≤ sizeLine := by rw [sizeLine_eq]; omega
theorem line_lt {n : Nat} (h : n ≤ 16777215) : n < sizeLine := by rw [sizeLine_eq]; omega
def m_LONGEST : List RA.D → Rs (Bool × RA.D) := fun ds => if ds.length = 0 then .ok (false, .int 200) else .no
/- 5 _law_letters(_law_cell); slots: 0=_law_cell 1=_law_left 2=_law_number_here 3=_law_many 4=_law_found 5=_law_k 6=_law_at; calls:  -/
/- 6 _law_cell_at(_law_script, _law_k); slots: 0=_law_script 1=_law_k; calls:  -/
def i_law_cell_at : IS := (.seq (.if_ (.cmp .lt (.v 1) (.bi .len (.cons (.v 0) .nil))) (.seq (.ret (.ix (.v 0) (.v 1))) .nil) .nil) (.seq (.ret (.k (.int 0))) .nil))
def f_law_cell_at : FT := fun _ _ => .no
def m_law_cell_at : List RA.D → Rs (Bool × RA.D) := mk 2 2 f_law_cell_at i_law_cell_at
/- 7 _law_shorter(_law_many, _law_size); slots: 0=_law_many 1=_law_size 2=_law_found 3=_law_power 4=_law_k; calls:  -/
def i_law_shorter : IS := (.seq (.set 2 (.k (.int 0))) (.seq (.set 3 (.k (.int 1))) (.seq (.for_ (.one 4) (.rng1 (.v 1)) (.seq (.set 2 (.b .add (.v 2) (.v 3))) (.seq (.set 3 (.b .mul (.v 3) (.v 0))) .nil))) (.seq (.ret (.v 2)) .nil))))
def f_law_shorter : FT := fun _ _ => .no
def m_law_shorter : List RA.D → Rs (Bool × RA.D) := mk 2 5 f_law_shorter i_law_shorter
/- 8 _law_drawn(_law_script, _law_many); slots: 0=_law_script 1=_law_many 2=_law_last 3=_law_way 4=_law_cell 5=_law_number_here 6=_law_one; calls: 6=law_cell_at 7=law_shorter -/
def f_law_drawn : FT := fun n ds => match n, ds with | 6, ds => m_law_cell_at ds | 7, ds => m_law_shorter ds | _, _ => .no
@[simp] theorem f_law_drawn_6 (ds : List RA.D) : f_law_drawn 6 ds = m_law_cell_at ds := (rfl)
@[simp] theorem f_law_drawn_7 (ds : List RA.D) : f_law_drawn 7 ds = m_law_shorter ds := (rfl)
/- 9 check_letters(letters); slots: 0=letters 1=k; calls:  -/
def i_check_letters : IS := (.seq (.if_ (.or_ (.cmp .lt (.bi .len (.cons (.v 0) .nil)) (.k (.int 1))) (.cmp .gt (.bi .len (.cons (.v 0) .nil)) (.k (.int 3)))) (.seq (.rse 2 "NoLetters") .nil) .nil) (.seq (.for_ (.one 1) (.rng1 (.bi .len (.cons (.v 0) .nil))) (.seq (.if_ (.or_ (.cmp .lt (.ix (.v 0) (.v 1)) (.k (.str [97]))) (.or_ (.cmp .gt (.ix (.v 0) (.v 1)) (.k (.str [122]))) (.cmp .mem (.ix (.v 0) (.v 1)) (.sl (.v 0) .out (.v 1))))) (.seq (.rse 2 "NoLetters") .nil) .nil) .nil)) .nil))
def f_check_letters : FT := fun _ _ => .no
def m_check_letters : List RA.D → Rs (Bool × RA.D) := mk 1 2 f_check_letters i_check_letters
/- 10 word_of(letters, number); slots: 0=letters 1=number 2=word; calls: 9=check_letters 0=LONGEST -/
def f_word_of : FT := fun n ds => match n, ds with | 9, ds => m_check_letters ds | 0, ds => m_LONGEST ds | _, _ => .no
@[simp] theorem f_word_of_9 (ds : List RA.D) : f_word_of 9 ds = m_check_letters ds := (rfl)
@[simp] theorem f_word_of_0 (ds : List RA.D) : f_word_of 0 ds = m_LONGEST ds := (rfl)
/- 11 check_word(letters, word); slots: 0=letters 1=word 2=sign; calls:  -/
def i_check_word : IS := (.seq (.for_ (.one 2) (.ex (.v 1)) (.seq (.if_ (.cmp .nmem (.v 2) (.v 0)) (.seq (.rse 3 "NoWord") .nil) .nil) .nil)) .nil)
def f_check_word : FT := fun _ _ => .no
def m_check_word : List RA.D → Rs (Bool × RA.D) := mk 2 3 f_check_word i_check_word
/- 12 number_of(letters, word); slots: 0=letters 1=word 2=number 3=sign; calls: 9=check_letters 11=check_word -/
def f_number_of : FT := fun n ds => match n, ds with | 9, ds => m_check_letters ds | 11, ds => m_check_word ds | _, _ => .no
@[simp] theorem f_number_of_9 (ds : List RA.D) : f_number_of 9 ds = m_check_letters ds := (rfl)
@[simp] theorem f_number_of_11 (ds : List RA.D) : f_number_of 11 ds = m_check_word ds := (rfl)
/- 13 _law_word(_law_letters_here, _law_cells); slots: 0=_law_letters_here 1=_law_cells 2=_law_cell; calls:  -/
/- 14 _law_number(_law_letters_here, _law_word_here); slots: 0=_law_letters_here 1=_law_word_here 2=_law_shorter_here 3=_law_power 4=_law_ahead 5=_law_sign; calls:  -/
/- 15 _law_is_word(_law_found, _law_letters_here); slots: 0=_law_found 1=_law_letters_here 2=_law_sign; calls:  -/
def i_law_is_word : IS := (.seq (.ret (.and_ (.bi .isStr (.cons (.v 0) .nil)) (.cmp .eq (.bi .len (.cons (.comp (.one 2) (.ex (.v 0)) (.cmp .nmem (.v 2) (.v 1)) (.v 2)) .nil)) (.k (.int 0))))) .nil)
def f_law_is_word : FT := fun _ _ => .no
def m_law_is_word : List RA.D → Rs (Bool × RA.D) := mk 2 3 f_law_is_word i_law_is_word
/- 16 _law_whole(_law_found); slots: 0=_law_found; calls:  -/
/-! ### cells -/
theorem cell_at_ok (ns : List Int) (k : Nat) : m_law_cell_at [.lst (ns.map .int), .int k] = .ok (false, .int (ns.getD k 0)) := by
  refine mk_of rfl ?_
  unfold i_law_cell_at
  by_cases h : k < ns.length
  · have e : atI (ns.map RA.D.int) (k : Int) = some (.int ns[k]) := geta (by simp [h])
    simp [startG, h, e]
  · simp [startG, h]
/-! ### how many words are shorter -/
/-! ### letters -/
structure Ltrs (s : List Nat) : Prop where
  pos : 1 ≤ s.length
  le : s.length ≤ 3
  nd : s.Nodup
  az : ∀ c ∈ s, 97 ≤ c ∧ c ≤ 122
theorem cut_perm {l : List Nat} {a : Nat} (h : a < l.length) : (l[a] :: (l.take a ++ l.drop (a + 1))).Perm l := by
  have e : l.take a ++ l[a] :: l.drop (a + 1) = l := by rw [← List.drop_eq_getElem_cons h, List.take_append_drop]
  have p : (l.take a ++ l[a] :: l.drop (a + 1)).Perm (l[a] :: (l.take a ++ l.drop (a + 1))) := List.perm_middle
  rw [e] at p
  exact p.symm
/-! ### the checks -/
/-- of these letters -/
def Ov (s w : List Nat) : Prop := ∀ c ∈ w, c ∈ s
/-! ### numbers of words -/
/-- a word's number -/
def bij (s : List Nat) : List Nat → Int
  | [] => 0
  | c :: w => (findL s c + 1) * (s.length : Int) ^ w.length + bij s w
theorem find_in {s : List Nat} {c : Nat} (h : c ∈ s) : ∃ i : Nat, findL s c = i ∧ i < s.length ∧ s[i]? = some c := by
  unfold findL
  cases e : s.findIdx? (· == c) with
  | none =>
    rw [List.findIdx?_eq_none_iff] at e
    exact absurd (e c h) (by simp)
  | some i =>
    obtain ⟨h1, h2, _⟩ := List.findIdx?_eq_some_iff_getElem.mp e
    exact ⟨i, rfl, h1, by rw [List.getElem?_eq_getElem h1]; exact congrArg some (eq_of_beq h2)⟩
theorem take_snoc {α : Type} {l : List α} {i : Nat} {x : α} (h : l[i]? = some x) : l.take (i + 1) = l.take i ++ [x] := by
  rw [List.take_add_one, h]; rfl
/-! ### is it a word -/
theorem comp_filter {t : Ev → Rs Bool} {e : Ev → Rs (Fl × RA.D)} {tg : Tg} {G : Ev} (p : RA.D → Bool) (v : RA.D → RA.D) : ∀ (ds : List RA.D), (∀ d ∈ ds, ∃ G', bindT tg d G = some G' ∧ t G' = .ok (p d) ∧ (p d = true → ∃ f, f ≠ Fl.tmp ∧ e G' = .ok (f, v d))) → compGo t e tg G ds = .ok ((ds.filter p).map v)
  | [], _ => rfl
  | d :: ds, h => by
    obtain ⟨G', h1, h2, h3⟩ := h d List.mem_cons_self
    have ih := comp_filter p v ds fun d hd => h d (List.mem_cons_of_mem _ hd)
    unfold compGo
    rw [h1]
    dsimp only
    rw [h2, Rs.bind_ok]
    cases e : p d with
    | false => rw [if_neg Bool.false_ne_true, ih, List.filter_cons, e, if_neg Bool.false_ne_true]
    | true =>
      obtain ⟨f, hf, h4⟩ := h3 e
      rw [if_pos rfl, h4, Rs.bind_ok, if_neg hf, ih, Rs.bind_ok, List.filter_cons, e, if_pos rfl, List.map_cons]
theorem quiet_ok {α : Type} {a : α} : (Rs.ok a).quiet = .ok a := rfl
theorem is_word_ok {s w : List Nat} (hw : Ov s w) (hl : w.length ≤ 100000) : m_law_is_word [.str w, .str s] = .ok (false, .bl true) := by
  refine mk_of rfl ?_
  unfold i_law_is_word
  have e1 : compGo (tstO f_law_is_word (.cmp .nmem (.v 2) (.v 1))) (ev f_law_is_word (.v 2)) (.one 2) [some (false, .str w), some (false, .str s), none] (w.map fun ch => .str [ch]) = .ok [] := by
    rw [comp_filter (fun _ => false) id]
    · rw [List.filter_eq_nil_iff.mpr fun _ _ => Bool.false_ne_true]; rfl
    · intro d hd
      obtain ⟨c, hc, rfl⟩ := List.mem_map.mp hd
      exact ⟨_, rfl, by simp only [inn_lst, inn_dct, inn_ln, isLn_lst, isLn_dct, tstO_eq, x_seq, x_set, x_own, x_do, x_if, x_for, x_whl, x_ret, x_retN, x_pass, x_brk, x_cnt, x_rse, x_fgt, x_frz, x_retp, x_app, x_aug, x_unp, x_put, e_v, e_pk, e_k, e_gl, e_b, e_neg, e_cmp, e_and, e_or, e_not, e_ife, e_tup, e_lst, e_dct, e_dct1, e_lset, e_ix, e_sl, e_rv, rv_lst, e_out, e_bi, e_me, e_call, e_comp, es_nil, es_cons, i_ex, i_rng1, i_rng2, i_zip, i_rev, valO_ok, pkO_ok, glO_ok, negO_ok, frzO_ok, retO_ok, augO_add, augO_sub, appO_ok, unpO_ok, walkO_lst, walkO_tup, walkO_str, rng1O_ok, rng2O_ok, zipO_ok, zipI_ok, revO_ok, asB_ok, items_lst, items_tup, items_str, bindT_one, bindT_tup, setAll_nil, setAll_cons, forget_nil, forget_cons, prt_int, prt_out, isOut, keepOk_nil, keepOk_cons, recv_str, b_add, b_sub, c_lt, c_le, c_gt, c_ge, c_ltS, c_gtS, c_eqI, c_neI, c_eqS, c_neS, c_eqB, c_neB, c_isn, c_isnt, c_memS, c_nmemS, sl_lst, len_lst, len_tup, is_str, is_intI, is_boolI, is_boolB, tuple_lst, list_lst, list_tup, find_one, seqO_nx, seqO_no, seqO_rt, seqO_ex, seqO_bk, seqO_ct, seqO_seqO, seqO_ite, x_nil, sat_nx, sat_rt, sat_ex, sat_thru, sat_thru_ct, sat_nxt, sat_t1, sat_t1c, sat_t1r, sat_t1e, Rs.bind_ok, Rs.bind_ex, Rs.out_ok, Rs.out_ex, List.set_cons_succ, List.set_cons_zero, List.getElem?_cons_succ, List.getElem?_cons_zero, List.map_cons, List.map_nil, List.cons_append, List.nil_append, startG, List.reduceReplicate, List.length_cons, List.length_nil, Nat.reduceAdd, Nat.reduceSub, Nat.zero_add, Nat.add_zero, Nat.zero_le, Nat.reduceLeDiff, List.append_nil, reduceCtorEq, if_true, if_false, ite_true, ite_false, ne_eq, not_false_eq_true, not_true_eq_false, decide_true, decide_false, decide_not, Bool.not_true, Bool.not_false, Bool.and_true, Bool.true_and, Bool.and_self, Bool.false_eq_true, and_self, and_true, true_and, decide_eq_true_eq, Int.reduceEq, Int.cast_ofNat_Int, Int.reduceNe, Int.reduceLT, Int.reduceLE, Int.reduceNeg, Int.reduceAdd, Int.reduceSub, tgSlots, freeAt, List.all_cons, List.all_nil, hw c hc], fun z => by cases z⟩
  have e2 : w.length < sizeLine := line_lt (by omega)
  simp only [inn_lst, inn_dct, inn_ln, isLn_lst, isLn_dct, tstO_eq, x_seq, x_set, x_own, x_do, x_if, x_for, x_whl, x_ret, x_retN, x_pass, x_brk, x_cnt, x_rse, x_fgt, x_frz, x_retp, x_app, x_aug, x_unp, x_put, e_v, e_pk, e_k, e_gl, e_b, e_neg, e_cmp, e_and, e_or, e_not, e_ife, e_tup, e_lst, e_dct, e_dct1, e_lset, e_ix, e_sl, e_rv, rv_lst, e_out, e_bi, e_me, e_call, e_comp, es_nil, es_cons, i_ex, i_rng1, i_rng2, i_zip, i_rev, valO_ok, pkO_ok, glO_ok, negO_ok, frzO_ok, retO_ok, augO_add, augO_sub, appO_ok, unpO_ok, walkO_lst, walkO_tup, walkO_str, rng1O_ok, rng2O_ok, zipO_ok, zipI_ok, revO_ok, asB_ok, items_lst, items_tup, items_str, bindT_one, bindT_tup, setAll_nil, setAll_cons, forget_nil, forget_cons, prt_int, prt_out, isOut, keepOk_nil, keepOk_cons, recv_str, b_add, b_sub, c_lt, c_le, c_gt, c_ge, c_ltS, c_gtS, c_eqI, c_neI, c_eqS, c_neS, c_eqB, c_neB, c_isn, c_isnt, c_memS, c_nmemS, sl_lst, len_lst, len_tup, is_str, is_intI, is_boolI, is_boolB, tuple_lst, list_lst, list_tup, find_one, seqO_nx, seqO_no, seqO_rt, seqO_ex, seqO_bk, seqO_ct, seqO_seqO, seqO_ite, x_nil, sat_nx, sat_rt, sat_ex, sat_thru, sat_thru_ct, sat_nxt, sat_t1, sat_t1c, sat_t1r, sat_t1e, Rs.bind_ok, Rs.bind_ex, Rs.out_ok, Rs.out_ex, List.set_cons_succ, List.set_cons_zero, List.getElem?_cons_succ, List.getElem?_cons_zero, List.map_cons, List.map_nil, List.cons_append, List.nil_append, startG, List.reduceReplicate, List.length_cons, List.length_nil, Nat.reduceAdd, Nat.reduceSub, Nat.zero_add, Nat.add_zero, Nat.zero_le, Nat.reduceLeDiff, List.append_nil, reduceCtorEq, if_true, if_false, ite_true, ite_false, ne_eq, not_false_eq_true, not_true_eq_false, decide_true, decide_false, decide_not, Bool.not_true, Bool.not_false, Bool.and_true, Bool.true_and, Bool.and_self, Bool.false_eq_true, and_self, and_true, true_and, decide_eq_true_eq, Int.reduceEq, Int.cast_ofNat_Int, Int.reduceNe, Int.reduceLT, Int.reduceLE, Int.reduceNeg, Int.reduceAdd, Int.reduceSub, tgSlots, freeAt, List.all_cons, List.all_nil, List.length_map, e2, e1, quiet_ok]
  done
/-! ### the word made of cells -/
theorem mod_ix {n : Nat} (h : 0 < n) (c : Int) : ∃ i : Nat, c % (n : Int) = i ∧ i < n := by
  have h1 := Int.emod_nonneg c (show (n : Int) ≠ 0 by omega)
  have h2 := Int.emod_lt_of_pos c (show 0 < (n : Int) by omega)
  exact ⟨(c % (n : Int)).toNat, by omega, by omega⟩
/-! ### the word of a number -/
/-! ### the number drawn -/
end RA
/-! W2: machines. -/
namespace RA
open PySem PySem.Spec PyProof.Rows L2
/- 22 _law_letters(_law_cell); slots: 0=_law_cell 1=_law_left 2=_law_number 3=_law_many 4=_law_found 5=_law_k 6=_law_at; calls:  -/
def i_law_letters_2 : IS := (.seq (.set 1 (.k (.str [97, 98, 99, 100, 101, 102, 103, 104, 105, 106, 107, 108, 109, 110, 111, 112, 113, 114, 115, 116, 117, 118, 119, 120, 121, 122]))) (.seq (.set 2 (.b .mod (.v 0) (.k (.int 46800)))) (.seq (.set 3 (.b .add (.k (.int 1)) (.b .mod (.v 2) (.k (.int 3))))) (.seq (.set 2 (.b .fdiv (.v 2) (.k (.int 3)))) (.seq (.set 4 (.k (.str []))) (.seq (.for_ (.one 5) (.rng1 (.v 3)) (.seq (.set 6 (.b .mod (.v 2) (.bi .len (.cons (.v 1) .nil)))) (.seq (.set 2 (.b .fdiv (.v 2) (.bi .len (.cons (.v 1) .nil)))) (.seq (.set 4 (.b .add (.v 4) (.ix (.v 1) (.v 6)))) (.seq (.set 1 (.b .add (.sl (.v 1) .out (.v 6)) (.sl (.v 1) (.b .add (.v 6) (.k (.int 1))) .out))) .nil))))) (.seq (.ret (.v 4)) .nil)))))))
def f_law_letters_2 : FT := fun _ _ => .no
def m_law_letters_2 : List RA.D → Rs (Bool × RA.D) := mk 1 7 f_law_letters_2 i_law_letters_2
/- 23 _law_machine(_law_script, _law_at, _law_rooms, _law_letters_here); slots: 0=_law_script 1=_law_at 2=_law_rooms 3=_law_letters_here 4=_law_ways 5=_law_marks 6=_law_number 7=_law_k 8=_law_rest 9=_law_row 10=_law_sign; calls: 6=law_cell_at -/
def i_law_machine : IS := (.seq (.own 4 (.lst .nil)) (.seq (.own 5 (.lst .nil)) (.seq (.set 6 (.k (.int 0))) (.seq (.for_ (.one 7) (.rng1 (.v 2)) (.seq (.set 6 (.b .mod (.b .add (.b .add (.b .mul (.v 6) (.v 6)) (.b .mul (.k (.int 48271)) (.b .mod (.call 6 (.cons (.v 0) (.cons (.b .add (.v 1) (.v 7)) .nil))) (.b .pow (.k (.int 10)) (.k (.int 9)))))) (.v 7)) (.k (.int 2147483647)))) (.seq (.set 8 (.v 6)) (.seq (.own 9 (.lst .nil)) (.seq (.for_ (.one 10) (.ex (.v 3)) (.seq (.app 9 (.b .mod (.v 8) (.v 2))) (.seq (.set 8 (.b .fdiv (.v 8) (.v 2))) .nil))) (.seq (.app 4 (.bi .tuple (.cons (.pk 9) .nil))) (.seq (.app 5 (.cmp .eq (.b .mod (.v 8) (.k (.int 2))) (.k (.int 1)))) (.seq (.fgt [9]) .nil)))))))) (.seq (.ret (.tup (.cons (.v 3) (.cons (.bi .tuple (.cons (.pk 4) .nil)) (.cons (.bi .tuple (.cons (.pk 5) .nil)) .nil))))) .nil)))))
def f_law_machine : FT := fun n ds => match n, ds with | 6, ds => m_law_cell_at ds | _, _ => .no
@[simp] theorem f_law_machine_6 (ds : List RA.D) : f_law_machine 6 ds = m_law_cell_at ds := (rfl)
def m_law_machine : List RA.D → Rs (Bool × RA.D) := mk 4 11 f_law_machine i_law_machine
/- 24 led(machine, room, word); slots: 0=machine 1=room 2=word 3=letters 4=ways 5=sign; calls:  -/
def i_led : IS := (.seq (.set 3 (.ix (.v 0) (.k (.int 0)))) (.seq (.set 4 (.ix (.v 0) (.k (.int 1)))) (.seq (.for_ (.one 5) (.ex (.v 2)) (.seq (.set 1 (.ix (.ix (.v 4) (.v 1)) (.me .find (.v 3) (.cons (.v 5) .nil)))) .nil)) (.seq (.ret (.v 1)) .nil))))
def f_led : FT := fun _ _ => .no
def m_led : List RA.D → Rs (Bool × RA.D) := mk 3 6 f_led i_led
/- 25 takes(machine, word); slots: 0=machine 1=word; calls: 11=check_word 24=led -/
def f_takes : FT := fun n ds => match n, ds with | 11, ds => m_check_word ds | 24, ds => m_led ds | _, _ => .no
@[simp] theorem f_takes_11 (ds : List RA.D) : f_takes 11 ds = m_check_word ds := (rfl)
@[simp] theorem f_takes_24 (ds : List RA.D) : f_takes 24 ds = m_led ds := (rfl)
/- 26 room_after(machine, room, word); slots: 0=machine 1=room 2=word; calls: 11=check_word 24=led -/
def f_room_after : FT := fun n ds => match n, ds with | 11, ds => m_check_word ds | 24, ds => m_led ds | _, _ => .no
@[simp] theorem f_room_after_11 (ds : List RA.D) : f_room_after 11 ds = m_check_word ds := (rfl)
@[simp] theorem f_room_after_24 (ds : List RA.D) : f_room_after 24 ds = m_led ds := (rfl)
/- 27 _law_after(_law_machine_here, _law_room, _law_word_here); slots: 0=_law_machine_here 1=_law_room 2=_law_word_here 3=_law_sign; calls:  -/
def i_law_after : IS := (.seq (.for_ (.one 3) (.ex (.v 2)) (.seq (.set 1 (.ix (.ix (.ix (.v 0) (.k (.int 1))) (.v 1)) (.me .find (.ix (.v 0) (.k (.int 0))) (.cons (.v 3) .nil)))) .nil)) (.seq (.ret (.v 1)) .nil))
def f_law_after : FT := fun _ _ => .no
def m_law_after : List RA.D → Rs (Bool × RA.D) := mk 3 4 f_law_after i_law_after
theorem letters2_ok (c : Int) : ∃ s, m_law_letters_2 [.int c] = .ok (false, .str s) ∧ Ltrs s := by
  suffices h : Sat (exec f_law_letters_2 FUEL i_law_letters_2 (startG 7 [.int c])) fun o => ∃ s, fin o = .ok (false, .str s) ∧ Ltrs s by
    obtain ⟨s, h1, h2⟩ := h
    exact ⟨s, (mk_fin rfl).trans h1, h2⟩
  unfold i_law_letters_2
  obtain ⟨m, em, hm⟩ : ∃ m : Nat, c % 46800 % 3 = (m : Int) ∧ m < 3 := ⟨(c % 46800 % 3).toNat, by omega, by omega⟩
  have hs : smallI (1 + (m : Int)) = true := small_int (by omega) (by omega)
  have h0 : 0 ≤ c % 46800 / 3 := by omega
  generalize hq : c % 46800 / 3 = q at h0
  simp [startG, em, hs, hq]
  refine for_ix (fun i G => ∃ left num found t5 t6, G = [some (false, .int c), some (false, .str left), some (false, .int num), some (false, .int (1 + (m : Int))), some (false, .str found), t5, t6] ∧ 0 ≤ num ∧ (found ++ left).Nodup ∧ (∀ x ∈ found ++ left, 97 ≤ x ∧ x ≤ 122) ∧ found.length = i ∧ left.length = 26 - i) ?_ ?_ ?_
  · exact ⟨_, _, _, _, _, rfl, h0, by decide, by decide, rfl, rfl⟩
  · rintro i d G hd ⟨left, num, found, t5, t6, rfl, hn, nd, az, hf, hl⟩
    refine ⟨_, rfl, ?_⟩
    have hi := (range_get hd).2
    have hlp : 0 < left.length := by omega
    obtain ⟨a, ea, la⟩ : ∃ a : Nat, num % (left.length : Int) = a ∧ a < left.length := by
      have h1 := Int.emod_nonneg num (show (left.length : Int) ≠ 0 by omega)
      have h2 := Int.emod_lt_of_pos num (show 0 < (left.length : Int) by omega)
      exact ⟨(num % (left.length : Int)).toNat, by omega, by omega⟩
    have e1 : left.length ≤ sizeLine := line_big (by omega)
    have e2 : atI left (a : Int) = some left[a] := geta (by simp [la])
    have e3 : cutD left (some ((a : Int) + 1)) none = left.drop (a + 1) := cut_from (k := a + 1)
    have e4 : binD .fdiv (.int num) (.int left.length) = .ok (.val, .int (num / left.length)) := b_fdiv (by omega) (by omega)
    have e5 : binD .mod (.int num) (.int left.length) = .ok (.val, .int a) := by rw [b_mod (by omega), ea]
    have e6 : binD .add (.str found) (.str [left[a]]) = .ok (.val, .str (found ++ [left[a]])) := b_cat (line_big (by simp; omega))
    have e7 : binD .add (.str (left.take a)) (.str (left.drop (a + 1))) = .ok (.val, .str (left.take a ++ left.drop (a + 1))) := b_cat (line_big (by simp; omega))
    simp only [inn_lst, inn_dct, inn_ln, isLn_lst, isLn_dct, tstO_eq, x_seq, x_set, x_own, x_do, x_if, x_for, x_whl, x_ret, x_retN, x_pass, x_brk, x_cnt, x_rse, x_fgt, x_frz, x_retp, x_app, x_aug, x_unp, x_put, e_v, e_pk, e_k, e_gl, e_b, e_neg, e_cmp, e_and, e_or, e_not, e_ife, e_tup, e_lst, e_dct, e_dct1, e_lset, e_ix, e_sl, e_rv, rv_lst, e_out, e_bi, e_me, e_call, e_comp, es_nil, es_cons, i_ex, i_rng1, i_rng2, i_zip, i_rev, valO_ok, pkO_ok, glO_ok, negO_ok, frzO_ok, retO_ok, augO_add, augO_sub, appO_ok, unpO_ok, walkO_lst, walkO_tup, walkO_str, rng1O_ok, rng2O_ok, zipO_ok, zipI_ok, revO_ok, asB_ok, items_lst, items_tup, items_str, bindT_one, bindT_tup, setAll_nil, setAll_cons, forget_nil, forget_cons, prt_int, prt_out, isOut, keepOk_nil, keepOk_cons, recv_str, b_add, b_sub, c_lt, c_le, c_gt, c_ge, c_ltS, c_gtS, c_eqI, c_neI, c_eqS, c_neS, c_eqB, c_neB, c_isn, c_isnt, c_memS, c_nmemS, sl_lst, len_lst, len_tup, is_str, is_intI, is_boolI, is_boolB, tuple_lst, list_lst, list_tup, find_one, seqO_nx, seqO_no, seqO_rt, seqO_ex, seqO_bk, seqO_ct, seqO_seqO, seqO_ite, x_nil, sat_nx, sat_rt, sat_ex, sat_thru, sat_thru_ct, sat_nxt, sat_t1, sat_t1c, sat_t1r, sat_t1e, Rs.bind_ok, Rs.bind_ex, Rs.out_ok, Rs.out_ex, List.set_cons_succ, List.set_cons_zero, List.getElem?_cons_succ, List.getElem?_cons_zero, List.map_cons, List.map_nil, List.cons_append, List.nil_append, startG, List.reduceReplicate, List.length_cons, List.length_nil, Nat.reduceAdd, Nat.reduceSub, Nat.zero_add, Nat.add_zero, Nat.zero_le, Nat.reduceLeDiff, List.append_nil, reduceCtorEq, if_true, if_false, ite_true, ite_false, ne_eq, not_false_eq_true, not_true_eq_false, decide_true, decide_false, decide_not, Bool.not_true, Bool.not_false, Bool.and_true, Bool.true_and, Bool.and_self, Bool.false_eq_true, and_self, and_true, true_and, decide_eq_true_eq, Int.reduceEq, Int.reduceNe, Int.reduceLT, Int.reduceLE, Int.reduceNeg, Int.reduceAdd, Int.reduceSub, tgSlots, freeAt, List.all_cons, List.all_nil, len_str e1, e5, e4, ix_sign e1 e2, e6, sl_sign e1, cut_to, e3, e7]
    have p := cut_perm la
    have p2 : ((found ++ [left[a]]) ++ (left.take a ++ left.drop (a + 1))).Perm (found ++ left) := by
      rw [List.append_assoc]
      exact List.Perm.append_left _ p
    refine ⟨_, _, _, _, _, rfl, Int.ediv_nonneg hn (by omega), p2.nodup_iff.mpr nd, fun x hx => az x (p2.mem_iff.mp hx), by simp [hf], ?_⟩
    simp; omega
  · rintro G ⟨left, num, found, t5, t6, rfl, hn, nd, az, hf, hl⟩
    have e : (rangeD 0 (1 + (m : Int))).length = 1 + m := by rw [range_len]; omega
    rw [e] at hf
    simp [Sat, fin]
    exact ⟨by omega, by omega, (List.nodup_append.mp nd).1, fun x hx => az x (List.mem_append_left _ hx)⟩
/-- a machine as data: its letters, the rows of its ways, its marks -/
def mD (s : List Nat) (rows : List (List Nat)) (marks : List Bool) : RA.D := .tup [.str s, .tup (rows.map fun r => .tup (r.map fun (i : Nat) => .int i)), .tup (marks.map .bl)]
structure Mach (s : List Nat) (rows : List (List Nat)) (marks : List Bool) : Prop where
  ltrs : Ltrs s
  pos : 0 < rows.length
  row : ∀ r ∈ rows, r.length = s.length ∧ ∀ i ∈ r, i < rows.length
  mkl : marks.length = rows.length
/-- one way -/
def way (s : List Nat) (rows : List (List Nat)) (r c : Nat) : Nat := (rows.getD r []).getD (findL s c).toNat 0
def lead (s : List Nat) (rows : List (List Nat)) (r : Nat) (w : List Nat) : Nat := w.foldl (way s rows) r
theorem way_ok {s : List Nat} {rows : List (List Nat)} {marks : List Bool} (M : Mach s rows marks) {r c : Nat} (hr : r < rows.length) (hc : c ∈ s) :
    way s rows r c < rows.length ∧ ∃ i : Nat, findL s c = i ∧ atI (rows.map fun r => RA.D.tup (r.map fun (i : Nat) => .int i)) (r : Int) = some (.tup ((rows.getD r []).map fun (i : Nat) => .int i)) ∧ atI ((rows.getD r []).map fun (i : Nat) => RA.D.int i) (i : Int) = some (.int (way s rows r c)) := by
  obtain ⟨i, e, hi, _⟩ := find_in hc
  have hrow : rows.getD r [] ∈ rows := by rw [List.getD_eq_getElem?_getD, List.getElem?_eq_getElem hr]; exact List.getElem_mem hr
  obtain ⟨h1, h2⟩ := M.row _ hrow
  have hi2 : i < (rows.getD r []).length := by rw [h1]; exact hi
  have ew : way s rows r c = (rows.getD r [])[i] := by
    unfold way
    rw [e, Int.toNat_natCast, List.getD_eq_getElem?_getD (l := rows.getD r []), List.getElem?_eq_getElem hi2]; rfl
  refine ⟨by rw [ew]; exact h2 _ (List.getElem_mem hi2), i, e, ?_, ?_⟩
  · refine geta ?_
    rw [List.getElem?_map, List.getElem?_eq_getElem hr, List.getD_eq_getElem?_getD, List.getElem?_eq_getElem hr]; rfl
  · refine geta ?_
    rw [List.getElem?_map, List.getElem?_eq_getElem hi2, ew]; rfl
theorem lead_lt {s : List Nat} {rows : List (List Nat)} {marks : List Bool} (M : Mach s rows marks) : ∀ {w : List Nat} {r : Nat}, Ov s w → r < rows.length → lead s rows r w < rows.length
  | [], _, _, hr => hr
  | c :: w, r, hw, hr => lead_lt M (w := w) (fun x hx => hw x (List.mem_cons_of_mem _ hx)) (way_ok M hr (hw c List.mem_cons_self)).1
theorem lead_snoc (s : List Nat) (rows : List (List Nat)) (r : Nat) (w : List Nat) (c : Nat) : lead s rows r (w ++ [c]) = way s rows (lead s rows r w) c := by unfold lead; rw [List.foldl_append]; rfl
theorem Ov.take {s w : List Nat} (h : Ov s w) (k : Nat) : Ov s (w.take k) := fun c hc => h c (List.mem_of_mem_take hc)
theorem Ov.drop {s w : List Nat} (h : Ov s w) (k : Nat) : Ov s (w.drop k) := fun c hc => h c (List.mem_of_mem_drop hc)
section
variable {s : List Nat} {rows : List (List Nat)} {marks : List Bool}
theorem m0 : ∀ {a b c : RA.D}, atI [a, b, c] 0 = some a := rfl
theorem m1 : ∀ {a b c : RA.D}, atI [a, b, c] 1 = some b := rfl
theorem m2 : ∀ {a b c : RA.D}, atI [a, b, c] 2 = some c := rfl
theorem law_after_ok (M : Mach s rows marks) {r : Nat} {w : List Nat} (hr : r < rows.length) (hw : Ov s w) : m_law_after [mD s rows marks, .int r, .str w] = .ok (false, .int (lead s rows r w)) := by
  refine mk_of rfl ?_
  unfold i_law_after mD
  simp only [inn_lst, inn_dct, inn_ln, isLn_lst, isLn_dct, tstO_eq, x_seq, x_set, x_own, x_do, x_if, x_for, x_whl, x_ret, x_retN, x_pass, x_brk, x_cnt, x_rse, x_fgt, x_frz, x_retp, x_app, x_aug, x_unp, x_put, e_v, e_pk, e_k, e_gl, e_b, e_neg, e_cmp, e_and, e_or, e_not, e_ife, e_tup, e_lst, e_dct, e_dct1, e_lset, e_ix, e_sl, e_rv, rv_lst, e_out, e_bi, e_me, e_call, e_comp, es_nil, es_cons, i_ex, i_rng1, i_rng2, i_zip, i_rev, valO_ok, pkO_ok, glO_ok, negO_ok, frzO_ok, retO_ok, augO_add, augO_sub, appO_ok, unpO_ok, walkO_lst, walkO_tup, walkO_str, rng1O_ok, rng2O_ok, zipO_ok, zipI_ok, revO_ok, asB_ok, items_lst, items_tup, items_str, bindT_one, bindT_tup, setAll_nil, setAll_cons, forget_nil, forget_cons, prt_int, prt_out, isOut, keepOk_nil, keepOk_cons, recv_str, b_add, b_sub, c_lt, c_le, c_gt, c_ge, c_ltS, c_gtS, c_eqI, c_neI, c_eqS, c_neS, c_eqB, c_neB, c_isn, c_isnt, c_memS, c_nmemS, sl_lst, len_lst, len_tup, is_str, is_intI, is_boolI, is_boolB, tuple_lst, list_lst, list_tup, find_one, seqO_nx, seqO_no, seqO_rt, seqO_ex, seqO_bk, seqO_ct, seqO_seqO, seqO_ite, x_nil, sat_nx, sat_rt, sat_ex, sat_thru, sat_thru_ct, sat_nxt, sat_t1, sat_t1c, sat_t1r, sat_t1e, Rs.bind_ok, Rs.bind_ex, Rs.out_ok, Rs.out_ex, List.set_cons_succ, List.set_cons_zero, List.getElem?_cons_succ, List.getElem?_cons_zero, List.map_cons, List.map_nil, List.cons_append, List.nil_append, startG, List.reduceReplicate, List.length_cons, List.length_nil, Nat.reduceAdd, Nat.reduceSub, Nat.zero_add, Nat.add_zero, Nat.zero_le, Nat.reduceLeDiff, List.append_nil, reduceCtorEq, if_true, if_false, ite_true, ite_false, ne_eq, not_false_eq_true, not_true_eq_false, decide_true, decide_false, decide_not, Bool.not_true, Bool.not_false, Bool.and_true, Bool.true_and, Bool.and_self, Bool.false_eq_true, and_self, and_true, true_and, decide_eq_true_eq, Int.reduceEq, Int.reduceNe, Int.reduceLT, Int.reduceLE, Int.reduceNeg, Int.reduceAdd, Int.reduceSub, tgSlots, freeAt, List.all_cons, List.all_nil]
  refine for_ix (fun i G => ∃ t, G = [some (false, mD s rows marks), some (false, .int (lead s rows r (w.take i))), some (false, .str w), t]) ⟨none, rfl⟩ ?_ ?_
  · rintro i d G hd ⟨t, rfl⟩
    obtain ⟨c, hc, rfl⟩ := map_get hd
    refine ⟨_, rfl, ?_⟩
    obtain ⟨h1, j, h2, h3, h4⟩ := way_ok M (lead_lt M (hw.take i) hr) (hw c (List.mem_of_getElem? hc))
    unfold mD
    simp only [inn_lst, inn_dct, inn_ln, isLn_lst, isLn_dct, tstO_eq, x_seq, x_set, x_own, x_do, x_if, x_for, x_whl, x_ret, x_retN, x_pass, x_brk, x_cnt, x_rse, x_fgt, x_frz, x_retp, x_app, x_aug, x_unp, x_put, e_v, e_pk, e_k, e_gl, e_b, e_neg, e_cmp, e_and, e_or, e_not, e_ife, e_tup, e_lst, e_dct, e_dct1, e_lset, e_ix, e_sl, e_rv, rv_lst, e_out, e_bi, e_me, e_call, e_comp, es_nil, es_cons, i_ex, i_rng1, i_rng2, i_zip, i_rev, valO_ok, pkO_ok, glO_ok, negO_ok, frzO_ok, retO_ok, augO_add, augO_sub, appO_ok, unpO_ok, walkO_lst, walkO_tup, walkO_str, rng1O_ok, rng2O_ok, zipO_ok, zipI_ok, revO_ok, asB_ok, items_lst, items_tup, items_str, bindT_one, bindT_tup, setAll_nil, setAll_cons, forget_nil, forget_cons, prt_int, prt_out, isOut, keepOk_nil, keepOk_cons, recv_str, b_add, b_sub, c_lt, c_le, c_gt, c_ge, c_ltS, c_gtS, c_eqI, c_neI, c_eqS, c_neS, c_eqB, c_neB, c_isn, c_isnt, c_memS, c_nmemS, sl_lst, len_lst, len_tup, is_str, is_intI, is_boolI, is_boolB, tuple_lst, list_lst, list_tup, find_one, seqO_nx, seqO_no, seqO_rt, seqO_ex, seqO_bk, seqO_ct, seqO_seqO, seqO_ite, x_nil, sat_nx, sat_rt, sat_ex, sat_thru, sat_thru_ct, sat_nxt, sat_t1, sat_t1c, sat_t1r, sat_t1e, Rs.bind_ok, Rs.bind_ex, Rs.out_ok, Rs.out_ex, List.set_cons_succ, List.set_cons_zero, List.getElem?_cons_succ, List.getElem?_cons_zero, List.map_cons, List.map_nil, List.cons_append, List.nil_append, startG, List.reduceReplicate, List.length_cons, List.length_nil, Nat.reduceAdd, Nat.reduceSub, Nat.zero_add, Nat.add_zero, Nat.zero_le, Nat.reduceLeDiff, List.append_nil, reduceCtorEq, if_true, if_false, ite_true, ite_false, ne_eq, not_false_eq_true, not_true_eq_false, decide_true, decide_false, decide_not, Bool.not_true, Bool.not_false, Bool.and_true, Bool.true_and, Bool.and_self, Bool.false_eq_true, and_self, and_true, true_and, decide_eq_true_eq, Int.reduceEq, Int.reduceNe, Int.reduceLT, Int.reduceLE, Int.reduceNeg, Int.reduceAdd, Int.reduceSub, tgSlots, freeAt, List.all_cons, List.all_nil, ix_tup m0, ix_tup m1, h2, ix_tup h3, ix_tup h4]
    exact ⟨_, by rw [take_snoc hc, lead_snoc]⟩
  · rintro G ⟨t, rfl⟩
    simp only [inn_lst, inn_dct, inn_ln, isLn_lst, isLn_dct, tstO_eq, x_seq, x_set, x_own, x_do, x_if, x_for, x_whl, x_ret, x_retN, x_pass, x_brk, x_cnt, x_rse, x_fgt, x_frz, x_retp, x_app, x_aug, x_unp, x_put, e_v, e_pk, e_k, e_gl, e_b, e_neg, e_cmp, e_and, e_or, e_not, e_ife, e_tup, e_lst, e_dct, e_dct1, e_lset, e_ix, e_sl, e_rv, rv_lst, e_out, e_bi, e_me, e_call, e_comp, es_nil, es_cons, i_ex, i_rng1, i_rng2, i_zip, i_rev, valO_ok, pkO_ok, glO_ok, negO_ok, frzO_ok, retO_ok, augO_add, augO_sub, appO_ok, unpO_ok, walkO_lst, walkO_tup, walkO_str, rng1O_ok, rng2O_ok, zipO_ok, zipI_ok, revO_ok, asB_ok, items_lst, items_tup, items_str, bindT_one, bindT_tup, setAll_nil, setAll_cons, forget_nil, forget_cons, prt_int, prt_out, isOut, keepOk_nil, keepOk_cons, recv_str, b_add, b_sub, c_lt, c_le, c_gt, c_ge, c_ltS, c_gtS, c_eqI, c_neI, c_eqS, c_neS, c_eqB, c_neB, c_isn, c_isnt, c_memS, c_nmemS, sl_lst, len_lst, len_tup, is_str, is_intI, is_boolI, is_boolB, tuple_lst, list_lst, list_tup, find_one, seqO_nx, seqO_no, seqO_rt, seqO_ex, seqO_bk, seqO_ct, seqO_seqO, seqO_ite, x_nil, sat_nx, sat_rt, sat_ex, sat_thru, sat_thru_ct, sat_nxt, sat_t1, sat_t1c, sat_t1r, sat_t1e, Rs.bind_ok, Rs.bind_ex, Rs.out_ok, Rs.out_ex, List.set_cons_succ, List.set_cons_zero, List.getElem?_cons_succ, List.getElem?_cons_zero, List.map_cons, List.map_nil, List.cons_append, List.nil_append, startG, List.reduceReplicate, List.length_cons, List.length_nil, Nat.reduceAdd, Nat.reduceSub, Nat.zero_add, Nat.add_zero, Nat.zero_le, Nat.reduceLeDiff, List.append_nil, reduceCtorEq, if_true, if_false, ite_true, ite_false, ne_eq, not_false_eq_true, not_true_eq_false, decide_true, decide_false, decide_not, Bool.not_true, Bool.not_false, Bool.and_true, Bool.true_and, Bool.and_self, Bool.false_eq_true, and_self, and_true, true_and, decide_eq_true_eq, Int.reduceEq, Int.reduceNe, Int.reduceLT, Int.reduceLE, Int.reduceNeg, Int.reduceAdd, Int.reduceSub, tgSlots, freeAt, List.all_cons, List.all_nil, List.length_map, List.take_length]
end
/-- the machine that is made of the cells -/
theorem machine_ok (ns : List Int) (k : Nat) {n : Nat} (h1 : 1 ≤ n) (h2 : n ≤ 1000) {s : List Nat} (L : Ltrs s) : ∃ rows marks, m_law_machine [.lst (ns.map .int), .int k, .int n, .str s] = .ok (false, mD s rows marks) ∧ Mach s rows marks ∧ rows.length = n := by
  suffices q : Sat (exec f_law_machine FUEL i_law_machine (startG 11 [.lst (ns.map .int), .int k, .int n, .str s])) fun o => ∃ rows marks, fin o = .ok (false, mD s rows marks) ∧ Mach s rows marks ∧ rows.length = n by
    obtain ⟨rows, marks, q1, q2⟩ := q
    exact ⟨rows, marks, (mk_fin rfl).trans q1, q2⟩
  unfold i_law_machine
  have sm : smallI (n : Int) = true := small_nat (by omega)
  simp only [inn_lst, inn_dct, inn_ln, isLn_lst, isLn_dct, tstO_eq, x_seq, x_set, x_own, x_do, x_if, x_for, x_whl, x_ret, x_retN, x_pass, x_brk, x_cnt, x_rse, x_fgt, x_frz, x_retp, x_app, x_aug, x_unp, x_put, e_v, e_pk, e_k, e_gl, e_b, e_neg, e_cmp, e_and, e_or, e_not, e_ife, e_tup, e_lst, e_dct, e_dct1, e_lset, e_ix, e_sl, e_rv, rv_lst, e_out, e_bi, e_me, e_call, e_comp, es_nil, es_cons, i_ex, i_rng1, i_rng2, i_zip, i_rev, valO_ok, pkO_ok, glO_ok, negO_ok, frzO_ok, retO_ok, augO_add, augO_sub, appO_ok, unpO_ok, walkO_lst, walkO_tup, walkO_str, rng1O_ok, rng2O_ok, zipO_ok, zipI_ok, revO_ok, asB_ok, items_lst, items_tup, items_str, bindT_one, bindT_tup, setAll_nil, setAll_cons, forget_nil, forget_cons, prt_int, prt_out, isOut, keepOk_nil, keepOk_cons, recv_str, b_add, b_sub, c_lt, c_le, c_gt, c_ge, c_ltS, c_gtS, c_eqI, c_neI, c_eqS, c_neS, c_eqB, c_neB, c_isn, c_isnt, c_memS, c_nmemS, sl_lst, len_lst, len_tup, is_str, is_intI, is_boolI, is_boolB, tuple_lst, list_lst, list_tup, find_one, seqO_nx, seqO_no, seqO_rt, seqO_ex, seqO_bk, seqO_ct, seqO_seqO, seqO_ite, x_nil, sat_nx, sat_rt, sat_ex, sat_thru, sat_thru_ct, sat_nxt, sat_t1, sat_t1c, sat_t1r, sat_t1e, Rs.bind_ok, Rs.bind_ex, Rs.out_ok, Rs.out_ex, List.set_cons_succ, List.set_cons_zero, List.getElem?_cons_succ, List.getElem?_cons_zero, List.map_cons, List.map_nil, List.cons_append, List.nil_append, startG, List.reduceReplicate, List.length_cons, List.length_nil, Nat.reduceAdd, Nat.reduceSub, Nat.zero_add, Nat.add_zero, Nat.zero_le, Nat.reduceLeDiff, List.append_nil, reduceCtorEq, if_true, if_false, ite_true, ite_false, ne_eq, not_false_eq_true, not_true_eq_false, decide_true, decide_false, decide_not, Bool.not_true, Bool.not_false, Bool.and_true, Bool.true_and, Bool.and_self, Bool.false_eq_true, and_self, and_true, true_and, decide_eq_true_eq, Int.reduceEq, Int.reduceNe, Int.reduceLT, Int.reduceLE, Int.reduceNeg, Int.reduceAdd, Int.reduceSub, tgSlots, freeAt, List.all_cons, List.all_nil, rng1O_ok sm]
  refine for_ix (fun i G => ∃ (rows : List (List Nat)) (marks : List Bool) (x : Int) (t7 t8 t10 : Option (Bool × RA.D)), G = [some (false, .lst (ns.map .int)), some (false, .int k), some (false, .int n), some (false, .str s), some (true, .lst (rows.map fun r => .tup (r.map fun (i : Nat) => .int i))), some (true, .lst (marks.map .bl)), some (false, .int x), t7, t8, none, t10] ∧ 0 ≤ x ∧ x < 2147483647 ∧ rows.length = i ∧ marks.length = i ∧ ∀ r ∈ rows, r.length = s.length ∧ ∀ j ∈ r, j < n) ?_ ?_ ?_
  · exact ⟨[], [], 0, none, none, none, rfl, by omega, by omega, rfl, rfl, fun r hr => by cases hr⟩
  · rintro i d G hd ⟨rows, marks, x, t7, t8, t10, rfl, x0, x1, lr, lm, hrows⟩
    obtain ⟨rfl, hi⟩ := range_get hd
    refine ⟨_, rfl, ?_⟩
    have c := cell_at_ok ns (k + i)
    have c : m_law_cell_at [.lst (ns.map .int), .int ((k : Int) + (0 + (i : Int)))] = .ok (false, .int (ns.getD (k + i) 0)) := by
      have ek : (k : Int) + (0 + (i : Int)) = ((k + i : Nat) : Int) := by omega
      rw [ek]; exact c
    generalize ns.getD (k + i) 0 = z at c
    have g1 : binD .mul (.int x) (.int x) = .ok (.val, .int (x * x)) := b_mulR x0 (by omega)
    have g2 : binD .pow (.int 10) (.int 9) = .ok (.val, .int (10 ^ 9)) := rfl
    have g3 : binD .mod (.int z) (.int (10 ^ 9)) = .ok (.val, .int (z % 10 ^ 9)) := b_mod (by decide)
    have g4 : binD .mul (.int 48271) (.int (z % 10 ^ 9)) = .ok (.val, .int (48271 * (z % 10 ^ 9))) := b_mulL (by omega) (by omega)
    have g5 : binD .mod (.int (x * x + 48271 * (z % 10 ^ 9) + (0 + (i : Int)))) (.int 2147483647) = .ok (.val, .int ((x * x + 48271 * (z % 10 ^ 9) + (0 + (i : Int))) % 2147483647)) := b_mod (by omega)
    have y0 := Int.emod_nonneg (x * x + 48271 * (z % 10 ^ 9) + (0 + (i : Int))) (show (2147483647 : Int) ≠ 0 by omega)
    have y1 := Int.emod_lt_of_pos (x * x + 48271 * (z % 10 ^ 9) + (0 + (i : Int))) (show (0 : Int) < 2147483647 by omega)
    generalize (x * x + 48271 * (z % 10 ^ 9) + (0 + (i : Int))) % 2147483647 = y at g5 y0 y1
    simp only [inn_lst, inn_dct, inn_ln, isLn_lst, isLn_dct, tstO_eq, x_seq, x_set, x_own, x_do, x_if, x_for, x_whl, x_ret, x_retN, x_pass, x_brk, x_cnt, x_rse, x_fgt, x_frz, x_retp, x_app, x_aug, x_unp, x_put, e_v, e_pk, e_k, e_gl, e_b, e_neg, e_cmp, e_and, e_or, e_not, e_ife, e_tup, e_lst, e_dct, e_dct1, e_lset, e_ix, e_sl, e_rv, rv_lst, e_out, e_bi, e_me, e_call, e_comp, es_nil, es_cons, i_ex, i_rng1, i_rng2, i_zip, i_rev, valO_ok, pkO_ok, glO_ok, negO_ok, frzO_ok, retO_ok, augO_add, augO_sub, appO_ok, unpO_ok, walkO_lst, walkO_tup, walkO_str, rng1O_ok, rng2O_ok, zipO_ok, zipI_ok, revO_ok, asB_ok, items_lst, items_tup, items_str, bindT_one, bindT_tup, setAll_nil, setAll_cons, forget_nil, forget_cons, prt_int, prt_out, isOut, keepOk_nil, keepOk_cons, recv_str, b_add, b_sub, c_lt, c_le, c_gt, c_ge, c_ltS, c_gtS, c_eqI, c_neI, c_eqS, c_neS, c_eqB, c_neB, c_isn, c_isnt, c_memS, c_nmemS, sl_lst, len_lst, len_tup, is_str, is_intI, is_boolI, is_boolB, tuple_lst, list_lst, list_tup, find_one, seqO_nx, seqO_no, seqO_rt, seqO_ex, seqO_bk, seqO_ct, seqO_seqO, seqO_ite, x_nil, sat_nx, sat_rt, sat_ex, sat_thru, sat_thru_ct, sat_nxt, sat_t1, sat_t1c, sat_t1r, sat_t1e, Rs.bind_ok, Rs.bind_ex, Rs.out_ok, Rs.out_ex, List.set_cons_succ, List.set_cons_zero, List.getElem?_cons_succ, List.getElem?_cons_zero, List.map_cons, List.map_nil, List.cons_append, List.nil_append, startG, List.reduceReplicate, List.length_cons, List.length_nil, Nat.reduceAdd, Nat.reduceSub, Nat.zero_add, Nat.add_zero, Nat.zero_le, Nat.reduceLeDiff, List.append_nil, reduceCtorEq, if_true, if_false, ite_true, ite_false, ne_eq, not_false_eq_true, not_true_eq_false, decide_true, decide_false, decide_not, Bool.not_true, Bool.not_false, Bool.and_true, Bool.true_and, Bool.and_self, Bool.false_eq_true, and_self, and_true, true_and, decide_eq_true_eq, Int.reduceEq, Int.reduceNe, Int.reduceLT, Int.reduceLE, Int.reduceNeg, Int.reduceAdd, Int.reduceSub, tgSlots, freeAt, List.all_cons, List.all_nil, f_law_machine_6, c, g1, g2, g3, g4, g5]
    refine for_ix (fun j G => ∃ (row : List Nat) (q : Int) (t10 : Option (Bool × RA.D)), G = [some (false, .lst (ns.map .int)), some (false, .int k), some (false, .int n), some (false, .str s), some (true, .lst (rows.map fun r => .tup (r.map fun (i : Nat) => .int i))), some (true, .lst (marks.map .bl)), some (false, .int y), some (false, .int (0 + (i : Int))), some (false, .int q), some (true, .lst (row.map fun (i : Nat) => .int i)), t10] ∧ row.length = j ∧ ∀ a ∈ row, a < n) ⟨[], y, t10, rfl, rfl, fun r hr => by cases hr⟩ ?_ ?_
    · rintro j d G hd ⟨row, q, t10, rfl, lrow, hrow⟩
      obtain ⟨c, hc, rfl⟩ := map_get hd
      refine ⟨_, rfl, ?_⟩
      obtain ⟨a, ea, ha⟩ := mod_ix (show 0 < n by omega) q
      have g6 : binD .mod (.int q) (.int n) = .ok (.val, .int a) := by rw [b_mod (by omega), ea]
      have g7 : binD .fdiv (.int q) (.int n) = .ok (.val, .int (q / n)) := b_fdiv (by omega) (by omega)
      have hj : j < s.length := by have := (List.getElem?_eq_some_iff.mp hc).1; exact this
      have g8 : (row.map fun (i : Nat) => RA.D.int i).length < sizeLine := line_lt (by rw [List.length_map]; have := L.le; omega)
      simp only [inn_lst, inn_dct, inn_ln, isLn_lst, isLn_dct, tstO_eq, x_seq, x_set, x_own, x_do, x_if, x_for, x_whl, x_ret, x_retN, x_pass, x_brk, x_cnt, x_rse, x_fgt, x_frz, x_retp, x_app, x_aug, x_unp, x_put, e_v, e_pk, e_k, e_gl, e_b, e_neg, e_cmp, e_and, e_or, e_not, e_ife, e_tup, e_lst, e_dct, e_dct1, e_lset, e_ix, e_sl, e_rv, rv_lst, e_out, e_bi, e_me, e_call, e_comp, es_nil, es_cons, i_ex, i_rng1, i_rng2, i_zip, i_rev, valO_ok, pkO_ok, glO_ok, negO_ok, frzO_ok, retO_ok, augO_add, augO_sub, appO_ok, unpO_ok, walkO_lst, walkO_tup, walkO_str, rng1O_ok, rng2O_ok, zipO_ok, zipI_ok, revO_ok, asB_ok, items_lst, items_tup, items_str, bindT_one, bindT_tup, setAll_nil, setAll_cons, forget_nil, forget_cons, prt_int, prt_out, isOut, keepOk_nil, keepOk_cons, recv_str, b_add, b_sub, c_lt, c_le, c_gt, c_ge, c_ltS, c_gtS, c_eqI, c_neI, c_eqS, c_neS, c_eqB, c_neB, c_isn, c_isnt, c_memS, c_nmemS, sl_lst, len_lst, len_tup, is_str, is_intI, is_boolI, is_boolB, tuple_lst, list_lst, list_tup, find_one, seqO_nx, seqO_no, seqO_rt, seqO_ex, seqO_bk, seqO_ct, seqO_seqO, seqO_ite, x_nil, sat_nx, sat_rt, sat_ex, sat_thru, sat_thru_ct, sat_nxt, sat_t1, sat_t1c, sat_t1r, sat_t1e, Rs.bind_ok, Rs.bind_ex, Rs.out_ok, Rs.out_ex, List.set_cons_succ, List.set_cons_zero, List.getElem?_cons_succ, List.getElem?_cons_zero, List.map_cons, List.map_nil, List.cons_append, List.nil_append, startG, List.reduceReplicate, List.length_cons, List.length_nil, Nat.reduceAdd, Nat.reduceSub, Nat.zero_add, Nat.add_zero, Nat.zero_le, Nat.reduceLeDiff, List.append_nil, reduceCtorEq, if_true, if_false, ite_true, ite_false, ne_eq, not_false_eq_true, not_true_eq_false, decide_true, decide_false, decide_not, Bool.not_true, Bool.not_false, Bool.and_true, Bool.true_and, Bool.and_self, Bool.false_eq_true, and_self, and_true, true_and, decide_eq_true_eq, Int.reduceEq, Int.reduceNe, Int.reduceLT, Int.reduceLE, Int.reduceNeg, Int.reduceAdd, Int.reduceSub, tgSlots, freeAt, List.all_cons, List.all_nil, g6, g7, g8]
      refine ⟨row ++ [a], _, _, by rw [List.map_append]; rfl, by simp [lrow], fun b hb => ?_⟩
      rcases List.mem_append.mp hb with z | z
      · exact hrow b z
      · rw [List.mem_singleton.mp z]; exact ha
    · rintro G ⟨row, q, t10, rfl, lrow, hrow⟩
      have g6 : binD .mod (.int q) (.int 2) = .ok (.val, .int (q % 2)) := b_mod (by omega)
      have g8 : (rows.map fun r => RA.D.tup (r.map fun (i : Nat) => .int i)).length < sizeLine := line_lt (by rw [List.length_map]; omega)
      have g9 : (marks.map RA.D.bl).length < sizeLine := line_lt (by rw [List.length_map]; omega)
      simp only [inn_lst, inn_dct, inn_ln, isLn_lst, isLn_dct, tstO_eq, x_seq, x_set, x_own, x_do, x_if, x_for, x_whl, x_ret, x_retN, x_pass, x_brk, x_cnt, x_rse, x_fgt, x_frz, x_retp, x_app, x_aug, x_unp, x_put, e_v, e_pk, e_k, e_gl, e_b, e_neg, e_cmp, e_and, e_or, e_not, e_ife, e_tup, e_lst, e_dct, e_dct1, e_lset, e_ix, e_sl, e_rv, rv_lst, e_out, e_bi, e_me, e_call, e_comp, es_nil, es_cons, i_ex, i_rng1, i_rng2, i_zip, i_rev, valO_ok, pkO_ok, glO_ok, negO_ok, frzO_ok, retO_ok, augO_add, augO_sub, appO_ok, unpO_ok, walkO_lst, walkO_tup, walkO_str, rng1O_ok, rng2O_ok, zipO_ok, zipI_ok, revO_ok, asB_ok, items_lst, items_tup, items_str, bindT_one, bindT_tup, setAll_nil, setAll_cons, forget_nil, forget_cons, prt_int, prt_out, isOut, keepOk_nil, keepOk_cons, recv_str, b_add, b_sub, c_lt, c_le, c_gt, c_ge, c_ltS, c_gtS, c_eqI, c_neI, c_eqS, c_neS, c_eqB, c_neB, c_isn, c_isnt, c_memS, c_nmemS, sl_lst, len_lst, len_tup, is_str, is_intI, is_boolI, is_boolB, tuple_lst, list_lst, list_tup, find_one, seqO_nx, seqO_no, seqO_rt, seqO_ex, seqO_bk, seqO_ct, seqO_seqO, seqO_ite, x_nil, sat_nx, sat_rt, sat_ex, sat_thru, sat_thru_ct, sat_nxt, sat_t1, sat_t1c, sat_t1r, sat_t1e, Rs.bind_ok, Rs.bind_ex, Rs.out_ok, Rs.out_ex, List.set_cons_succ, List.set_cons_zero, List.getElem?_cons_succ, List.getElem?_cons_zero, List.map_cons, List.map_nil, List.cons_append, List.nil_append, startG, List.reduceReplicate, List.length_cons, List.length_nil, Nat.reduceAdd, Nat.reduceSub, Nat.zero_add, Nat.add_zero, Nat.zero_le, Nat.reduceLeDiff, List.append_nil, reduceCtorEq, if_true, if_false, ite_true, ite_false, ne_eq, not_false_eq_true, not_true_eq_false, decide_true, decide_false, decide_not, Bool.not_true, Bool.not_false, Bool.and_true, Bool.true_and, Bool.and_self, Bool.false_eq_true, and_self, and_true, true_and, decide_eq_true_eq, Int.reduceEq, Int.reduceNe, Int.reduceLT, Int.reduceLE, Int.reduceNeg, Int.reduceAdd, Int.reduceSub, tgSlots, freeAt, List.all_cons, List.all_nil, g6, g8, g9]
      refine ⟨rows ++ [row], marks ++ [decide (q % 2 = 1)], _, _, _, _, by rw [List.map_append, List.map_append]; rfl, y0, y1, by simp [lr], by simp [lm], fun r hr => ?_⟩
      rcases List.mem_append.mp hr with z | z
      · exact hrows r z
      · rw [List.mem_singleton.mp z]; exact ⟨by rw [lrow, List.length_map], hrow⟩
  · rintro G ⟨rows, marks, x, t7, t8, t10, rfl, x0, x1, lr, lm, hrows⟩
    have e : (rangeD 0 (n : Int)).length = n := by rw [range_len]; omega
    rw [e] at lr lm
    simp only [inn_lst, inn_dct, inn_ln, isLn_lst, isLn_dct, tstO_eq, x_seq, x_set, x_own, x_do, x_if, x_for, x_whl, x_ret, x_retN, x_pass, x_brk, x_cnt, x_rse, x_fgt, x_frz, x_retp, x_app, x_aug, x_unp, x_put, e_v, e_pk, e_k, e_gl, e_b, e_neg, e_cmp, e_and, e_or, e_not, e_ife, e_tup, e_lst, e_dct, e_dct1, e_lset, e_ix, e_sl, e_rv, rv_lst, e_out, e_bi, e_me, e_call, e_comp, es_nil, es_cons, i_ex, i_rng1, i_rng2, i_zip, i_rev, valO_ok, pkO_ok, glO_ok, negO_ok, frzO_ok, retO_ok, augO_add, augO_sub, appO_ok, unpO_ok, walkO_lst, walkO_tup, walkO_str, rng1O_ok, rng2O_ok, zipO_ok, zipI_ok, revO_ok, asB_ok, items_lst, items_tup, items_str, bindT_one, bindT_tup, setAll_nil, setAll_cons, forget_nil, forget_cons, prt_int, prt_out, isOut, keepOk_nil, keepOk_cons, recv_str, b_add, b_sub, c_lt, c_le, c_gt, c_ge, c_ltS, c_gtS, c_eqI, c_neI, c_eqS, c_neS, c_eqB, c_neB, c_isn, c_isnt, c_memS, c_nmemS, sl_lst, len_lst, len_tup, is_str, is_intI, is_boolI, is_boolB, tuple_lst, list_lst, list_tup, find_one, seqO_nx, seqO_no, seqO_rt, seqO_ex, seqO_bk, seqO_ct, seqO_seqO, seqO_ite, x_nil, sat_nx, sat_rt, sat_ex, sat_thru, sat_thru_ct, sat_nxt, sat_t1, sat_t1c, sat_t1r, sat_t1e, Rs.bind_ok, Rs.bind_ex, Rs.out_ok, Rs.out_ex, List.set_cons_succ, List.set_cons_zero, List.getElem?_cons_succ, List.getElem?_cons_zero, List.map_cons, List.map_nil, List.cons_append, List.nil_append, startG, List.reduceReplicate, List.length_cons, List.length_nil, Nat.reduceAdd, Nat.reduceSub, Nat.zero_add, Nat.add_zero, Nat.zero_le, Nat.reduceLeDiff, List.append_nil, reduceCtorEq, if_true, if_false, ite_true, ite_false, ne_eq, not_false_eq_true, not_true_eq_false, decide_true, decide_false, decide_not, Bool.not_true, Bool.not_false, Bool.and_true, Bool.true_and, Bool.and_self, Bool.false_eq_true, and_self, and_true, true_and, decide_eq_true_eq, Int.reduceEq, Int.reduceNe, Int.reduceLT, Int.reduceLE, Int.reduceNeg, Int.reduceAdd, Int.reduceSub, tgSlots, freeAt, List.all_cons, List.all_nil, Sat, fin]
    refine ⟨rows, marks, ?_, ⟨L, by omega, fun r hr => by rw [lr]; exact hrows r hr, by rw [lm, lr]⟩, lr⟩
    simp [mD]
end RA
/-! W3: one word ahead of another. -/
namespace RA
open PySem PySem.Spec PyProof.Rows L2
/- 31 earlier(letters, one, two); slots: 0=letters 1=one 2=two 3=left 4=right; calls: 9=check_letters 11=check_word -/
def f_earlier : FT := fun n ds => match n, ds with | 9, ds => m_check_letters ds | 11, ds => m_check_word ds | _, _ => .no
@[simp] theorem f_earlier_9 (ds : List RA.D) : f_earlier 9 ds = m_check_letters ds := (rfl)
@[simp] theorem f_earlier_11 (ds : List RA.D) : f_earlier 11 ds = m_check_word ds := (rfl)
/- 32 _law_earlier(_law_letters_here, _law_one, _law_two); slots: 0=_law_letters_here 1=_law_one 2=_law_two 3=_law_left 4=_law_right; calls:  -/
end RA
/-! W4: the order of words by their numbers; drawn machines. -/
namespace RA
open PySem PySem.Spec PyProof.Rows L2
/- 34 _law_long(_law_machine_here, _law_cell); slots: 0=_law_machine_here 1=_law_cell 2=_law_rooms 3=_law_place 4=_law_other 5=_law_ways 6=_law_k 7=_law_marks 8=_law_row 9=_law_goal; calls:  -/
def i_law_long : IS := (.seq (.set 2 (.bi .len (.cons (.ix (.v 0) (.k (.int 1))) .nil))) (.seq (.set 3 (.b .mod (.v 1) (.bi .len (.cons (.ix (.v 0) (.k (.int 0))) .nil)))) (.seq (.set 4 (.b .mod (.b .fdiv (.v 1) (.k (.int 3))) (.v 2))) (.seq (.own 5 (.lst .nil)) (.seq (.for_ (.one 6) (.rng1 (.v 2)) (.seq (.own 8 (.comp (.one 9) (.ex (.ix (.ix (.v 0) (.k (.int 1))) (.v 6))) (.k (.bl true)) (.b .mod (.v 9) (.b .add (.v 6) (.k (.int 1)))))) (.seq (.if_ (.cmp .lt (.b .add (.v 6) (.k (.int 1))) (.v 2)) (.seq (.put 8 (.v 3) (.b .add (.v 6) (.k (.int 1)))) .nil) .nil) (.seq (.app 5 (.bi .tuple (.cons (.pk 8) .nil))) (.seq (.fgt [8]) .nil))))) (.seq (.set 7 (.comp (.one 6) (.rng1 (.v 2)) (.k (.bl true)) (.or_ (.cmp .eq (.v 6) (.b .sub (.v 2) (.k (.int 1)))) (.and_ (.cmp .eq (.b .mod (.b .fdiv (.b .fdiv (.v 1) (.k (.int 3))) (.v 2)) (.k (.int 2))) (.k (.int 1))) (.cmp .eq (.v 6) (.v 4)))))) (.seq (.ret (.tup (.cons (.ix (.v 0) (.k (.int 0))) (.cons (.bi .tuple (.cons (.pk 5) .nil)) (.cons (.bi .tuple (.cons (.v 7) .nil)) .nil))))) .nil)))))))
def f_law_long : FT := fun _ _ => .no
def m_law_long : List RA.D → Rs (Bool × RA.D) := mk 2 10 f_law_long i_law_long
/- 35 _law_twins(_law_machine_here, _law_cell); slots: 0=_law_machine_here 1=_law_cell 2=_law_ways 3=_law_marks 4=_law_number 5=_law_k; calls:  -/
def i_law_twins : IS := (.seq (.own 2 (.bi .list (.cons (.ix (.v 0) (.k (.int 1))) .nil))) (.seq (.own 3 (.bi .list (.cons (.ix (.v 0) (.k (.int 2))) .nil))) (.seq (.set 4 (.b .mod (.v 1) (.k (.int 2147483647)))) (.seq (.for_ (.one 5) (.rng2 (.k (.int 1)) (.bi .len (.cons (.pk 2) .nil))) (.seq (.set 4 (.b .mod (.b .add (.b .add (.b .mul (.v 4) (.v 4)) (.b .mul (.k (.int 69621)) (.v 4))) (.v 5)) (.k (.int 2147483629)))) (.seq (.if_ (.cmp .eq (.b .mod (.v 4) (.k (.int 3))) (.k (.int 1))) (.seq (.put 2 (.v 5) (.ix (.pk 2) (.b .mod (.b .fdiv (.v 4) (.k (.int 3))) (.v 5)))) (.seq (.put 3 (.v 5) (.ix (.pk 3) (.b .mod (.b .fdiv (.v 4) (.k (.int 3))) (.v 5)))) .nil)) .nil) .nil))) (.seq (.ret (.tup (.cons (.ix (.v 0) (.k (.int 0))) (.cons (.bi .tuple (.cons (.pk 2) .nil)) (.cons (.bi .tuple (.cons (.pk 3) .nil)) .nil))))) .nil)))))
def f_law_twins : FT := fun _ _ => .no
def m_law_twins : List RA.D → Rs (Bool × RA.D) := mk 2 6 f_law_twins i_law_twins
/- 36 _law_some(_law_script, _law_rooms, _law_letters_here); slots: 0=_law_script 1=_law_rooms 2=_law_letters_here 3=_law_machine_here 4=_law_kind; calls: 23=law_machine 6=law_cell_at 34=law_long 35=law_twins -/
def f_law_some : FT := fun n ds => match n, ds with | 23, ds => m_law_machine ds | 6, ds => m_law_cell_at ds | 34, ds => m_law_long ds | 35, ds => m_law_twins ds | _, _ => .no
@[simp] theorem f_law_some_23 (ds : List RA.D) : f_law_some 23 ds = m_law_machine ds := (rfl)
@[simp] theorem f_law_some_6 (ds : List RA.D) : f_law_some 6 ds = m_law_cell_at ds := (rfl)
@[simp] theorem f_law_some_34 (ds : List RA.D) : f_law_some 34 ds = m_law_long ds := (rfl)
@[simp] theorem f_law_some_35 (ds : List RA.D) : f_law_some 35 ds = m_law_twins ds := (rfl)
/-! ### comprehensions of lists that are told by others -/
theorem comp_list {α : Type} {t : Ev → Rs Bool} {e : Ev → Rs (Fl × RA.D)} {tg : Tg} {G : Ev} (f v : α → RA.D) : ∀ (xs : List α), (∀ x ∈ xs, ∃ G', bindT tg (f x) G = some G' ∧ t G' = .ok true ∧ ∃ fl, fl ≠ Fl.tmp ∧ e G' = .ok (fl, v x)) → compGo t e tg G (xs.map f) = .ok (xs.map v)
  | [], _ => rfl
  | x :: xs, h => by
    obtain ⟨G', h1, h2, fl, h3, h4⟩ := h x List.mem_cons_self
    have ih := comp_list f v xs fun d hd => h d (List.mem_cons_of_mem _ hd)
    rw [List.map_cons]
    unfold compGo
    rw [h1]
    dsimp only
    rw [h2, Rs.bind_ok, if_pos rfl, h4, Rs.bind_ok, if_neg h3, ih, Rs.bind_ok, List.map_cons]
end RA
/-! W5: first words. -/
namespace RA
open PySem PySem.Spec PyProof.Rows L2
/- 37 first_words(machine); slots: 0=machine 1=letters 2=seen 3=found 4=at 5=room 6=word 7=sign 8=goal; calls:  -/
def i_first_words : IS := (.seq (.set 1 (.ix (.v 0) (.k (.int 0)))) (.seq (.own 2 (.dct (.cons (.k (.int 0)) .nil) (.cons (.k (.bl true)) .nil))) (.seq (.own 3 (.lst (.cons (.tup (.cons (.k (.int 0)) (.cons (.k (.str [])) .nil))) .nil))) (.seq (.set 4 (.k (.int 0))) (.seq (.whl (.cmp .lt (.v 4) (.bi .len (.cons (.pk 3) .nil))) (.seq (.unp [5, 6] (.ix (.pk 3) (.v 4))) (.seq (.for_ (.tup [7, 8]) (.zip2 (.v 1) (.ix (.ix (.v 0) (.k (.int 1))) (.v 5))) (.seq (.if_ (.cmp .nmem (.v 8) (.pk 2)) (.seq (.put 2 (.v 8) (.k (.bl true))) (.seq (.app 3 (.tup (.cons (.v 8) (.cons (.b .add (.v 6) (.v 7)) .nil)))) .nil)) .nil) .nil)) (.seq (.set 4 (.b .add (.v 4) (.k (.int 1)))) .nil)))) (.seq (.retp 3) .nil))))))
def f_first_words : FT := fun _ _ => .no
def m_first_words : List RA.D → Rs (Bool × RA.D) := mk 1 9 f_first_words i_first_words
/- 38 _law_after(_law_machine_here, _law_room, _law_word); slots: 0=_law_machine_here 1=_law_room 2=_law_word 3=_law_sign; calls:  -/
theorem find_pos {s : List Nat} (h : s.Nodup) {k c : Nat} (e : s[k]? = some c) : findL s c = k := by
  obtain ⟨i, e1, h1, g1⟩ := find_in (List.mem_of_getElem? e)
  obtain ⟨h2, g2⟩ := List.getElem?_eq_some_iff.mp e
  obtain ⟨h3, g3⟩ := List.getElem?_eq_some_iff.mp g1
  have : i = k := by
    rcases Nat.lt_trichotomy i k with z | z | z
    · exact absurd (g3.trans g2.symm) (List.pairwise_iff_getElem.mp h i k h3 h2 z)
    · exact z
    · exact absurd (g2.trans g3.symm) (List.pairwise_iff_getElem.mp h k i h2 h3 z)
  rw [e1, this]
theorem nodup_le : ∀ (n : Nat) (l : List Nat), l.Nodup → (∀ x ∈ l, x < n) → l.length ≤ n
  | 0, l, _, h => by
    cases l with
    | nil => exact Nat.le_refl _
    | cons a l => exact absurd (h a List.mem_cons_self) (Nat.not_lt_zero _)
  | n + 1, l, nd, h => by
    by_cases q : n ∈ l
    · have ih := nodup_le n (l.erase n) (nd.erase n) fun x hx => by
        have h1 := nd.mem_erase_iff.mp hx
        have := h x h1.2
        omega
      rw [List.length_erase_of_mem q] at ih
      omega
    · have ih := nodup_le n l nd fun x hx => by
        have := h x hx
        have : x ≠ n := fun z => q (z ▸ hx)
        omega
      omega
abbrev Fnd := List (Nat × List Nat)
structure FwI (s : List Nat) (rows : List (List Nat)) (found : Fnd) (at' j : Nat) : Prop where
  hd : found[0]? = some (0, [])
  nd : (found.map (·.1)).Nodup
  it : ∀ p ∈ found, p.1 < rows.length ∧ Ov s p.2 ∧ lead s rows 0 p.2 = p.1 ∧ p.2.length < found.length
  srt : found.Pairwise fun p q => bij s p.2 < bij s q.2
  cl : ∀ (i : Nat) (p : Nat × List Nat), found[i]? = some p → ∀ (k c : Nat), s[k]? = some c → (i < at' ∨ (i = at' ∧ k < j)) → ∃ w, (way s rows p.1 c, w) ∈ found ∧ bij s w ≤ bij s (p.2 ++ [c])
  fr : ∀ p ∈ found, p.2 = [] ∨ ∃ (i : Nat) (q : Nat × List Nat) (k c : Nat), found[i]? = some q ∧ s[k]? = some c ∧ (i < at' ∨ (i = at' ∧ k < j)) ∧ p.2 = q.2 ++ [c]
section
variable {s : List Nat} {rows : List (List Nat)} {marks : List Bool} {found : Fnd} {at' j : Nat}
theorem FwI.len (I : FwI s rows found at' j) : found.length ≤ rows.length := by
  have := nodup_le rows.length _ I.nd fun x hx => by
    obtain ⟨p, hp, rfl⟩ := List.mem_map.mp hx
    exact (I.it p hp).1
  rwa [List.length_map] at this
end
end RA
/-! B1: plain: words of places, rows of states in the order of their first words. -/
namespace RA
/-- the number of a word of places, of m -/
def num (m : Nat) (w : List Nat) : Nat := w.foldl (fun n k => n * m + k + 1) 0
theorem num_nil {m : Nat} : num m [] = 0 := rfl
theorem num_snoc {m : Nat} {w : List Nat} {k : Nat} : num m (w ++ [k]) = num m w * m + k + 1 := by unfold num; rw [List.foldl_append]; rfl
/-- a word over m places -/
def Wd (m : Nat) (w : List Nat) : Prop := ∀ k ∈ w, k < m
theorem Wd.nil {m : Nat} : Wd m [] := fun k h => by cases h
theorem Wd.snoc {m : Nat} {w : List Nat} {k : Nat} (h : Wd m w) (hk : k < m) : Wd m (w ++ [k]) := fun x hx => by
  rcases List.mem_append.mp hx with z | z
  · exact h x z
  · rw [List.mem_singleton.mp z]; exact hk
theorem Wd.app {m : Nat} {u w : List Nat} (h : Wd m u) (g : Wd m w) : Wd m (u ++ w) := fun x hx => (List.mem_append.mp hx).elim (h x) (g x)
theorem Wd.left {m : Nat} {u w : List Nat} (h : Wd m (u ++ w)) : Wd m u := fun x hx => h x (List.mem_append_left _ hx)
theorem Wd.last {m : Nat} {w : List Nat} {k : Nat} (h : Wd m (w ++ [k])) : k < m := h k (List.mem_append_right _ (List.mem_singleton.mpr rfl))
theorem Wd.cons {m : Nat} {w : List Nat} {k : Nat} (h : Wd m w) (hk : k < m) : Wd m (k :: w) := fun x hx => by
  rcases List.mem_cons.mp hx with z | z
  · rw [z]; exact hk
  · exact h x z
theorem num_le_snoc {m : Nat} {u w : List Nat} {k : Nat} (h : num m u ≤ num m w) : num m (u ++ [k]) ≤ num m (w ++ [k]) := by
  rw [num_snoc, num_snoc]
  have := Nat.mul_le_mul_right m h
  omega
theorem num_lt_snoc {m : Nat} {u w : List Nat} {i k : Nat} (hi : i < m) (h : num m u < num m w) : num m (u ++ [i]) < num m (w ++ [k]) := by
  rw [num_snoc, num_snoc]
  have := Nat.mul_le_mul_right m (Nat.succ_le_of_lt h)
  rw [Nat.succ_mul] at this
  omega
theorem snoc_ind {α : Type} {P : List α → Prop} (h0 : P []) (h1 : ∀ w k, P w → P (w ++ [k])) : ∀ w, P w := by
  have : ∀ n w, w.length = n → P w := by
    intro n
    induction n with
    | zero => intro w e; rw [List.eq_nil_of_length_eq_zero e]; exact h0
    | succ n ih =>
      intro w e
      have ne : w ≠ [] := fun z => by rw [z] at e; cases e
      rw [← List.dropLast_concat_getLast ne]
      exact h1 _ _ (ih _ (by rw [List.length_dropLast]; omega))
  exact fun w => this _ w rfl
theorem num_inj {m : Nat} : ∀ {u w : List Nat}, Wd m u → Wd m w → num m u = num m w → u = w := by
  intro u
  refine snoc_ind (P := fun u => ∀ {w : List Nat}, Wd m u → Wd m w → num m u = num m w → u = w) ?_ ?_ u
  · intro w
    refine snoc_ind (P := fun w => Wd m [] → Wd m w → num m [] = num m w → [] = w) (fun _ _ _ => rfl) (fun w k _ _ _ e => ?_) w
    rw [num_snoc, num_nil] at e; omega
  · intro u i ih w
    refine snoc_ind (P := fun w => Wd m (u ++ [i]) → Wd m w → num m (u ++ [i]) = num m w → u ++ [i] = w) (fun _ _ e => ?_) (fun w k _ hu hw e => ?_) w
    · rw [num_snoc, num_nil] at e; omega
    · have hi := hu.last
      have hk := hw.last
      rcases Nat.lt_trichotomy (num m u) (num m w) with z | z | z
      · have := num_lt_snoc (k := k) hi z; omega
      · have := ih hu.left hw.left z
        subst this
        rw [num_snoc, num_snoc] at e
        have : i = k := by omega
        rw [this]
      · have := num_lt_snoc (k := i) hk z; omega
theorem nodupLe : ∀ (n : Nat) (l : List Nat), l.Nodup → (∀ x ∈ l, x < n) → l.length ≤ n
  | 0, l, _, h => by
    cases l with
    | nil => exact Nat.le_refl _
    | cons a l => exact absurd (h a List.mem_cons_self) (Nat.not_lt_zero _)
  | n + 1, l, nd, h => by
    by_cases q : n ∈ l
    · have ih := nodupLe n (l.erase n) (nd.erase n) fun x hx => by
        have h1 := nd.mem_erase_iff.mp hx
        have := h x h1.2
        omega
      rw [List.length_erase_of_mem q] at ih
      omega
    · have ih := nodupLe n l nd fun x hx => by
        have := h x hx
        have : x ≠ n := fun z => q (z ▸ hx)
        omega
      omega
/-! ### rows of states -/
section
variable {α : Type}
/-- what a word leads to -/
abbrev goes (st : α → Nat → α) (a : α) (w : List Nat) : α := w.foldl st a
theorem goes_snoc {st : α → Nat → α} {a : α} {w : List Nat} {k : Nat} : goes st a (w ++ [k]) = st (goes st a w) k := by unfold goes; rw [List.foldl_append]; rfl
theorem goes_app {st : α → Nat → α} {a : α} {u w : List Nat} : goes st a (u ++ w) = goes st (goes st a u) w := List.foldl_append
/-- the row of states with their first words, gone through up to the state at i, its letter j -/
structure Bfs (m : Nat) (st : α → Nat → α) (a0 : α) (f : List (α × List Nat)) (i j : Nat) : Prop where
  hd : f[0]? = some (a0, [])
  nd : (f.map (·.1)).Nodup
  it : ∀ p ∈ f, Wd m p.2 ∧ goes st a0 p.2 = p.1 ∧ p.2.length < f.length
  srt : f.Pairwise fun p q => num m p.2 < num m q.2
  cl : ∀ (i' : Nat) (p : α × List Nat), f[i']? = some p → ∀ k < m, (i' < i ∨ (i' = i ∧ k < j)) → ∃ w, (st p.1 k, w) ∈ f ∧ num m w ≤ num m (p.2 ++ [k])
  fr : ∀ p ∈ f, p.2 = [] ∨ ∃ (i' : Nat) (q : α × List Nat) (k : Nat), f[i']? = some q ∧ k < m ∧ (i' < i ∨ (i' = i ∧ k < j)) ∧ p.2 = q.2 ++ [k]
variable {m : Nat} {st : α → Nat → α} {a0 : α} {f : List (α × List Nat)} {i j : Nat} {p : α × List Nat}
theorem Bfs.start : Bfs m st a0 [(a0, [])] 0 0 := by
  refine ⟨rfl, by simp, fun p hp => ?_, List.pairwise_singleton _ _, fun i' p h k hk z => by omega, fun p hp => .inl (by rw [List.mem_singleton.mp hp])⟩
  rw [List.mem_singleton.mp hp]
  exact ⟨Wd.nil, rfl, by simp⟩
theorem Bfs.fresh (I : Bfs m st a0 f i j) (hj : j < m) (hp : f[i]? = some p) : ∀ q ∈ f, num m q.2 < num m (p.2 ++ [j]) := by
  intro q hq
  rcases I.fr q hq with e | ⟨i', r, k, h1, h2, h3, e⟩
  · rw [e, num_snoc, num_nil]; omega
  · rw [e]
    rcases h3 with h3 | ⟨rfl, h3⟩
    · obtain ⟨l1, e1⟩ := List.getElem?_eq_some_iff.mp h1
      obtain ⟨l2, e2⟩ := List.getElem?_eq_some_iff.mp hp
      have := List.pairwise_iff_getElem.mp I.srt i' i l1 l2 h3
      rw [e1, e2] at this
      exact num_lt_snoc h2 this
    · rw [h1] at hp
      cases hp
      rw [num_snoc, num_snoc]; omega
theorem Bfs.old (I : Bfs m st a0 f i j) (hj : j < m) (hp : f[i]? = some p) (h : st p.1 j ∈ f.map (·.1)) : Bfs m st a0 f i (j + 1) := by
  refine ⟨I.hd, I.nd, I.it, I.srt, fun i' q hi k hk h' => ?_, fun q hq => (I.fr q hq).imp id fun ⟨i', r, k, h1, h2, h3, e⟩ => ⟨i', r, k, h1, h2, by omega, e⟩⟩
  by_cases z : i' < i ∨ (i' = i ∧ k < j)
  · exact I.cl i' q hi k hk z
  · have e1 : i' = i := by omega
    have e2 : k = j := by omega
    subst e1 e2
    rw [hi] at hp
    cases hp
    obtain ⟨r, hr, e⟩ := List.mem_map.mp h
    refine ⟨r.2, by rw [← e]; exact hr, ?_⟩
    have := I.fresh hj hi r hr
    omega
theorem Bfs.new (I : Bfs m st a0 f i j) (hj : j < m) (hp : f[i]? = some p) (h : st p.1 j ∉ f.map (·.1)) : Bfs m st a0 (f ++ [(st p.1 j, p.2 ++ [j])]) i (j + 1) := by
  have hat := (List.getElem?_eq_some_iff.mp hp).1
  obtain ⟨i1, i2, i3⟩ := I.it p (List.mem_of_getElem? hp)
  have up : ∀ {i' : Nat}, i' ≤ i → (f ++ [(st p.1 j, p.2 ++ [j])])[i']? = f[i']? := fun {i'} hi => List.getElem?_append_left (by omega)
  refine ⟨by rw [up (Nat.zero_le _)]; exact I.hd, ?_, fun q hq => ?_, ?_, fun i' q hi k hk h' => ?_, fun q hq => ?_⟩
  · rw [List.map_append, List.nodup_append]
    refine ⟨I.nd, by simp, fun a ha b hb => ?_⟩
    have : b = st p.1 j := by simpa using hb
    subst this
    exact fun z => h (z ▸ ha)
  · rw [List.length_append, List.length_singleton]
    rcases List.mem_append.mp hq with z | z
    · obtain ⟨k1, k2, k3⟩ := I.it q z
      exact ⟨k1, k2, by omega⟩
    · rw [List.mem_singleton.mp z]
      exact ⟨i1.snoc hj, by rw [goes_snoc, i2], by rw [List.length_append, List.length_singleton]; omega⟩
  · rw [List.pairwise_append]
    refine ⟨I.srt, List.pairwise_singleton _ _, fun a ha b hb => ?_⟩
    rw [List.mem_singleton.mp hb]
    exact I.fresh hj hp a ha
  · by_cases z : i' < i ∨ (i' = i ∧ k < j)
    · rw [up (by omega)] at hi
      obtain ⟨w, h1, h2⟩ := I.cl i' q hi k hk z
      exact ⟨w, List.mem_append_left _ h1, h2⟩
    · have e1 : i' = i := by omega
      have e2 : k = j := by omega
      subst e1 e2
      rw [up (Nat.le_refl _), hp] at hi
      cases hi
      exact ⟨p.2 ++ [k], List.mem_append_right _ (List.mem_singleton.mpr rfl), Nat.le_refl _⟩
  · rcases List.mem_append.mp hq with z | z
    · refine (I.fr q z).imp id fun ⟨i', r, k, h1, h2, h3, e⟩ => ⟨i', r, k, by rw [up (by omega)]; exact h1, h2, by omega, e⟩
    · rw [List.mem_singleton.mp z]
      exact .inr ⟨i, p, j, by rw [up (Nat.le_refl _)]; exact hp, hj, .inr ⟨rfl, Nat.lt_succ_self _⟩, rfl⟩
/-- one letter: what stands behind it -/
def bput [DecidableEq α] (st : α → Nat → α) (f : List (α × List Nat)) (p : α × List Nat) (j : Nat) : List (α × List Nat) := if st p.1 j ∈ f.map (·.1) then f else f ++ [(st p.1 j, p.2 ++ [j])]
theorem Bfs.put [DecidableEq α] (I : Bfs m st a0 f i j) (hj : j < m) (hp : f[i]? = some p) : Bfs m st a0 (bput st f p j) i (j + 1) ∧ (bput st f p j)[i]? = some p := by
  unfold bput
  split
  · rename_i h; exact ⟨I.old hj hp h, hp⟩
  · rename_i h; exact ⟨I.new hj hp h, by rw [List.getElem?_append_left (List.getElem?_eq_some_iff.mp hp).1]; exact hp⟩
theorem Bfs.next (I : Bfs m st a0 f i m) : Bfs m st a0 f (i + 1) 0 :=
  ⟨I.hd, I.nd, I.it, I.srt, fun i' q hi k hk h' => I.cl i' q hi k hk (by omega), fun q hq => (I.fr q hq).imp id fun ⟨i', r, k, h1, h2, h3, e⟩ => ⟨i', r, k, h1, h2, by omega, e⟩⟩
theorem Bfs.size (I : Bfs m st a0 f i j) (N : Nat) (code : α → Nat) (inj : ∀ a ∈ f.map (·.1), ∀ b ∈ f.map (·.1), code a = code b → a = b) (lt : ∀ a ∈ f.map (·.1), code a < N) : f.length ≤ N := by
  have nd : ((f.map (·.1)).map code).Nodup := by
    have := I.nd
    unfold List.Nodup at this ⊢
    rw [List.pairwise_map]
    exact List.Pairwise.imp_of_mem (fun {a b} ha hb h => fun z => h (inj a ha b hb z)) this
  have := nodupLe N _ nd fun x hx => by
    obtain ⟨a, ha, rfl⟩ := List.mem_map.mp hx
    exact lt a ha
  rwa [List.length_map, List.length_map] at this
theorem Bfs.mem (I : Bfs m st a0 f i j) : (a0, []) ∈ f := List.mem_of_getElem? I.hd
theorem Bfs.uniq (I : Bfs m st a0 f i j) {a : α} {u w : List Nat} (h1 : (a, u) ∈ f) (h2 : (a, w) ∈ f) : u = w := by
  obtain ⟨x, hx, e1⟩ := List.mem_iff_getElem.mp h1
  obtain ⟨y, hy, e2⟩ := List.mem_iff_getElem.mp h2
  have hx' : x < (f.map (·.1)).length := by rw [List.length_map]; exact hx
  have hy' : y < (f.map (·.1)).length := by rw [List.length_map]; exact hy
  have ex : (f.map (·.1))[x] = a := by rw [List.getElem_map, e1]
  have ey : (f.map (·.1))[y] = a := by rw [List.getElem_map, e2]
  have := List.pairwise_iff_getElem.mp I.nd
  have exy : x = y := by
    rcases Nat.lt_trichotomy x y with z | z | z
    · exact absurd (ex.trans ey.symm) (this x y hx' hy' z)
    · exact z
    · exact absurd (ey.trans ex.symm) (this y x hy' hx' z)
  subst exy
  rw [e1] at e2
  cases e2; rfl
/-- all gone through: each word leads to a state that is told, with a word that does not come after it -/
theorem Bfs.done (I : Bfs m st a0 f i j) (hi : f.length ≤ i) : ∀ w : List Nat, Wd m w → ∃ u, (goes st a0 w, u) ∈ f ∧ num m u ≤ num m w := by
  refine snoc_ind (fun _ => ⟨[], I.mem, Nat.le_refl _⟩) fun w k ih hw => ?_
  obtain ⟨u, h1, h2⟩ := ih hw.left
  obtain ⟨x, hx, e⟩ := List.mem_iff_getElem.mp h1
  obtain ⟨v, h4, h5⟩ := I.cl x _ (by rw [List.getElem?_eq_getElem hx, e]) k hw.last (.inl (by omega))
  exact ⟨v, by rw [goes_snoc]; exact h4, Nat.le_trans h5 (num_le_snoc h2)⟩
/-- each told word leads to its state, and is the first that does -/
theorem Bfs.first (I : Bfs m st a0 f i j) (hi : f.length ≤ i) {a : α} {u w : List Nat} (h : (a, u) ∈ f) (hw : Wd m w) (e : goes st a0 w = a) : num m u ≤ num m w := by
  obtain ⟨v, h1, h2⟩ := I.done hi w hw
  rw [e] at h1
  rw [I.uniq h h1]; exact h2
/-- states that some kind of words lead to -/
theorem Bfs.inv (I : Bfs m st a0 f i j) {P : α → Prop} (h0 : P a0) (h1 : ∀ a k, P a → k < m → P (st a k)) : ∀ q ∈ f, P q.1 := by
  have : ∀ w, Wd m w → P (goes st a0 w) := snoc_ind (fun _ => h0) fun w k ih hw => by rw [goes_snoc]; exact h1 _ _ (ih hw.left) hw.last
  intro q hq
  obtain ⟨a, b, _⟩ := I.it q hq
  rw [← b]; exact this _ a
end
end RA
/-! B2: plain: lots of rooms, round by round; least machines. -/
namespace RA
/-- the item at a place, of numbers -/
abbrev nth (l : List Nat) (i : Nat) : Nat := l.getD i 0
theorem nth_get {l : List Nat} {i : Nat} (h : i < l.length) : l[i]? = some (nth l i) := by
  unfold nth; rw [List.getD_eq_getElem?_getD, List.getElem?_eq_getElem h]; rfl
theorem nth_of {l : List Nat} {i x : Nat} (h : l[i]? = some x) : nth l i = x := by unfold nth; rw [List.getD_eq_getElem?_getD, h]; rfl
theorem nth_mem {l : List Nat} {i : Nat} (h : i < l.length) : nth l i ∈ l := List.mem_of_getElem? (nth_get h)
theorem nth_app {l m : List Nat} {i : Nat} (h : i < l.length) : nth (l ++ m) i = nth l i := nth_of (by rw [List.getElem?_append_left h, nth_get h])
theorem nth_at {l : List Nat} {x : Nat} : nth (l ++ [x]) l.length = x := nth_of (by rw [List.getElem?_append_right (Nat.le_refl _), Nat.sub_self]; rfl)
/-- the greatest -/
def mx (l : List Nat) : Nat := l.foldl max 0
theorem mx_fold (l : List Nat) : ∀ x : Nat, x ≤ l.foldl max x ∧ (∀ y ∈ l, y ≤ l.foldl max x) ∧ (l.foldl max x = x ∨ l.foldl max x ∈ l) := by
  induction l with
  | nil => intro x; exact ⟨Nat.le_refl _, (fun y h => by cases h), .inl rfl⟩
  | cons a l ih =>
    intro x
    obtain ⟨h1, h2, h3⟩ := ih (max x a)
    rw [List.foldl_cons]
    refine ⟨Nat.le_trans (Nat.le_max_left _ _) h1, fun y hy => ?_, ?_⟩
    · rcases List.mem_cons.mp hy with rfl | hy
      · exact Nat.le_trans (Nat.le_max_right _ _) h1
      · exact h2 y hy
    · rcases h3 with h3 | h3
      · rcases Nat.le_total x a with z | z
        · rw [Nat.max_eq_right z] at h3 ⊢; exact .inr (by rw [h3]; exact List.mem_cons_self)
        · rw [Nat.max_eq_left z] at h3 ⊢; exact .inl h3
      · exact .inr (List.mem_cons_of_mem _ h3)
theorem mx_le {l : List Nat} {y : Nat} (h : y ∈ l) : y ≤ mx l := (mx_fold l 0).2.1 y h
theorem mx_nth {l : List Nat} {i : Nat} (h : i < l.length) : nth l i ≤ mx l := mx_le (nth_mem h)
theorem mx_mem {l : List Nat} (h : 0 < l.length) : mx l ∈ l := by
  rcases (mx_fold l 0).2.2 with z | z
  · have : mx l = 0 := z
    have h0 := mx_nth h
    have h1 := nth_mem h
    rw [this] at h0 ⊢
    rw [Nat.le_zero.mp h0] at h1; exact h1
  · exact z
theorem nth_ix {l : List Nat} {x : Nat} (h : x ∈ l) : ∃ i, i < l.length ∧ nth l i = x := by
  obtain ⟨i, hi, e⟩ := List.mem_iff_getElem.mp h
  exact ⟨i, hi, nth_of (by rw [List.getElem?_eq_getElem hi, e])⟩
theorem mx_at {l : List Nat} (h : 0 < l.length) : ∃ i, i < l.length ∧ nth l i = mx l := nth_ix (mx_mem h)
/-! ### numbers by first coming -/
/-- the numbers grow one by one -/
def Grw (l : List Nat) : Prop := ∀ i < l.length, ∀ x, nth l i = x + 1 → ∃ j, j < i ∧ nth l j = x
theorem Grw.all {l : List Nat} (h : Grw l) {i : Nat} (hi : i < l.length) : ∀ x ≤ nth l i, ∃ j, j ≤ i ∧ nth l j = x := by
  have : ∀ (d i : Nat), i < l.length → d ≤ nth l i → ∃ j, j ≤ i ∧ nth l j = nth l i - d := by
    intro d
    induction d with
    | zero => intro i _ _; exact ⟨i, Nat.le_refl _, rfl⟩
    | succ d ih =>
      intro i hi hd
      obtain ⟨j, h1, h2⟩ := ih i hi (by omega)
      obtain ⟨j2, h3, h4⟩ := h j (by omega) (nth l i - (d + 1)) (by omega)
      exact ⟨j2, by omega, h4⟩
  intro x hx
  obtain ⟨j, h1, h2⟩ := this (nth l i - x) i hi (by omega)
  exact ⟨j, h1, by omega⟩
theorem Grw.cov {l : List Nat} (h : Grw l) (h0 : 0 < l.length) : ∀ x ≤ mx l, ∃ j, j < l.length ∧ nth l j = x := fun x hx => by
  obtain ⟨i, hi, e⟩ := mx_at h0
  obtain ⟨j, h1, h2⟩ := h.all hi x (by omega)
  exact ⟨j, by omega, h2⟩
theorem Grw.zero {l : List Nat} (h : Grw l) (h0 : 0 < l.length) : nth l 0 = 0 := by
  obtain ⟨j, h1, h2⟩ := h.all h0 0 (Nat.zero_le _)
  rw [Nat.le_zero.mp h1] at h2; exact h2
/-! ### agreeing rooms -/
section
variable {m n : Nat} {go : Nat → Nat → Nat} {mk : Nat → Bool}
def alike (m : Nat) (go : Nat → Nat → Nat) (mk : Nat → Bool) (p q : Nat) : Prop := ∀ w, Wd m w → mk (goes go p w) = mk (goes go q w)
theorem alike.stp {p q k : Nat} (h : alike m go mk p q) (hk : k < m) : alike m go mk (go p k) (go q k) := fun w hw => h (k :: w) (hw.cons hk)
theorem alike.far {p q : Nat} (h : alike m go mk p q) {w : List Nat} (hw : Wd m w) : alike m go mk (goes go p w) (goes go q w) := fun v hv => by
  rw [← goes_app, ← goes_app]; exact h _ (hw.app hv)
theorem alike.symm {p q : Nat} (h : alike m go mk p q) : alike m go mk q p := fun w hw => (h w hw).symm
/-- closed: the rooms are 0 .. n - 1 -/
def Clo (m n : Nat) (go : Nat → Nat → Nat) : Prop := ∀ r < n, ∀ k < m, go r k < n
theorem Clo.goes (C : Clo m n go) {r : Nat} (hr : r < n) : ∀ {w : List Nat}, Wd m w → goes go r w < n := by
  intro w
  refine snoc_ind (P := fun w => Wd m w → RA.goes go r w < n) (fun _ => hr) (fun w k ih hw => ?_) w
  rw [goes_snoc]; exact C _ (ih hw.left) k hw.last
/-! ### one room for each lot -/
/-- the rooms that come first in their lots -/
structure Frst (lots : List Nat) (t : Nat) (reps : List Nat) : Prop where
  lt : ∀ x < reps.length, nth reps x < t ∧ nth lots (nth reps x) = x ∧ ∀ j < nth reps x, nth lots j < x
  all : ∀ j < t, nth lots j < reps.length
theorem Frst.le {lots reps : List Nat} {t : Nat} (R : Frst lots t reps) (G : Grw lots) (ht : t < lots.length) : nth lots t ≤ reps.length := by
  cases e : nth lots t with
  | zero => exact Nat.zero_le _
  | succ x =>
    obtain ⟨j, h1, h2⟩ := G t ht x e
    have := R.all j h1
    omega
theorem Frst.new {lots reps : List Nat} {t : Nat} (R : Frst lots t reps) (h : nth lots t = reps.length) : Frst lots (t + 1) (reps ++ [t]) := by
  refine ⟨fun x hx => ?_, fun j hj => ?_⟩
  · rw [List.length_append, List.length_singleton] at hx
    by_cases q : x < reps.length
    · rw [nth_app q]
      obtain ⟨h1, h2, h3⟩ := R.lt x q
      exact ⟨by omega, h2, h3⟩
    · have : x = reps.length := by omega
      subst this
      rw [nth_at]
      exact ⟨Nat.lt_succ_self _, h, R.all⟩
  · rw [List.length_append, List.length_singleton]
    by_cases q : j < t
    · have := R.all j q; omega
    · have : j = t := by omega
      subst this; omega
theorem Frst.old {lots reps : List Nat} {t : Nat} (R : Frst lots t reps) (G : Grw lots) (ht : t < lots.length) (h : nth lots t ≠ reps.length) : Frst lots (t + 1) reps := by
  have := R.le G ht
  refine ⟨fun x hx => ?_, fun j hj => ?_⟩
  · obtain ⟨h1, h2, h3⟩ := R.lt x hx
    exact ⟨by omega, h2, h3⟩
  · by_cases q : j < t
    · exact R.all j q
    · have : j = t := by omega
      subst this; omega
theorem Frst.count {lots reps : List Nat} (R : Frst lots lots.length reps) (h : 0 < lots.length) : reps.length = mx lots + 1 := by
  obtain ⟨i, h1, h2⟩ := mx_at h
  have h3 := R.all i h1
  have h4 : reps.length - 1 ≤ mx lots := by
    by_cases q : 0 < reps.length
    · obtain ⟨h5, h6, _⟩ := R.lt (reps.length - 1) (by omega)
      rw [← h6]; exact mx_nth h5
    · omega
  omega
/-! ### the rooms of lots -/
/-- the machine of the lots: go' and mk' by the rooms that come first -/
structure Quo (m n : Nat) (go : Nat → Nat → Nat) (mk : Nat → Bool) (lots reps : List Nat) (go' : Nat → Nat → Nat) (mk' : Nat → Bool) : Prop where
  pos : 0 < n
  clo : Clo m n go
  len : lots.length = n
  gr : Grw lots
  al : ∀ p < n, ∀ q < n, (nth lots p = nth lots q ↔ alike m go mk p q)
  rp : RA.Frst lots n reps
  gos : ∀ x < reps.length, ∀ k < m, go' x k = nth lots (go (nth reps x) k)
  mks : ∀ x < reps.length, mk' x = mk (nth reps x)
variable {lots reps : List Nat} {go' : Nat → Nat → Nat} {mk' : Nat → Bool}
theorem Quo.hom (Q : Quo m n go mk lots reps go' mk') {p : Nat} (hp : p < n) : (∀ k < m, go' (nth lots p) k = nth lots (go p k)) ∧ mk' (nth lots p) = mk p := by
  have h1 := Q.rp.all p hp
  obtain ⟨h2, h3, _⟩ := Q.rp.lt _ h1
  have h4 := (Q.al _ h2 _ hp).mp h3
  refine ⟨fun k hk => ?_, ?_⟩
  · rw [Q.gos _ h1 k hk]
    exact (Q.al _ (Q.clo _ h2 k hk) _ (Q.clo _ hp k hk)).mpr (h4.stp hk)
  · rw [Q.mks _ h1]; exact h4 [] Wd.nil
theorem Quo.far (Q : Quo m n go mk lots reps go' mk') {p : Nat} (hp : p < n) : ∀ {w : List Nat}, Wd m w → RA.goes go' (nth lots p) w = nth lots (RA.goes go p w) := by
  intro w
  refine snoc_ind (P := fun w => Wd m w → RA.goes go' (nth lots p) w = nth lots (RA.goes go p w)) (fun _ => rfl) (fun w k ih hw => ?_) w
  rw [goes_snoc, goes_snoc, ih hw.left]
  exact (Q.hom (Q.clo.goes hp hw.left)).1 k hw.last
theorem Quo.zero (Q : Quo m n go mk lots reps go' mk') : nth lots 0 = 0 := Q.gr.zero (by rw [Q.len]; exact Q.pos)
theorem Quo.start (Q : Quo m n go mk lots reps go' mk') {w : List Nat} (hw : Wd m w) : RA.goes go' 0 w = nth lots (RA.goes go 0 w) := by
  have := Q.far Q.pos hw
  rwa [Q.zero] at this
end
end RA
/-! B3: plain: the machine of a row of states; more of lots. -/
namespace RA
section
variable {α : Type} {m : Nat} {st : α → Nat → α} {a0 : α} {f : List (α × List Nat)} {i j : Nat} {gn : Nat → Nat → Nat}
/-- gn leads from place to place as st leads from state to state -/
def Places (m : Nat) (st : α → Nat → α) (f : List (α × List Nat)) (gn : Nat → Nat → Nat) : Prop := ∀ (x : Nat) (p : α × List Nat), f[x]? = some p → ∀ k < m, ∃ q, f[gn x k]? = some q ∧ q.1 = st p.1 k
theorem Places.clo (P : Places m st f gn) : Clo m f.length gn := fun r hr k hk => by
  obtain ⟨q, h, _⟩ := P r _ (List.getElem?_eq_getElem hr) k hk
  exact (List.getElem?_eq_some_iff.mp h).1
theorem Places.far (P : Places m st f gn) (I : Bfs m st a0 f i j) : ∀ w, Wd m w → ∃ q, f[goes gn 0 w]? = some q ∧ q.1 = goes st a0 w := by
  refine snoc_ind (fun _ => ⟨_, I.hd, rfl⟩) fun w k ih hw => ?_
  obtain ⟨q, h1, h2⟩ := ih hw.left
  obtain ⟨r, h3, h4⟩ := P _ q h1 k hw.last
  rw [goes_snoc, goes_snoc]
  exact ⟨r, h3, by rw [h4, h2]⟩
end
end RA
/-! W6: walking with conditions shown on the way. -/
namespace RA
open PySem PySem.Spec PyProof.Rows L2
/-- slots written -/
def up : Ev → List (Nat × Option (Bool × RA.D)) → Ev
  | G, [] => G
  | G, (i, v) :: r => up (G.set i v) r
theorem up_nil {G : Ev} : up G [] = G := (rfl)
theorem up_cons {G : Ev} {i : Nat} {v : Option (Bool × RA.D)} {r : List (Nat × Option (Bool × RA.D))} : up G ((i, v) :: r) = up (G.set i v) r := (rfl)
theorem mk_sat {np nn : Nat} {F : FT} {ir : IS} {ds : List RA.D} {R : Rs (Bool × RA.D) → Prop} (hl : ds.length = np) (h : Sat (exec F FUEL ir (startG nn ds)) fun o => R (fin o)) : R (mk np nn F ir ds) := by
  rw [mk_fin hl]; exact h
/-- one turn of a loop: on (P), out (K), or the end (Q) -/
def Turn (P K : Ev → Prop) (Q : Out → Prop) (o : Out) : Prop := match o with
  | .nx G => P G
  | .ct G => P G
  | .bk G => K G
  | .rt b d => Q (.rt b d)
  | .ex G c fs => Q (.ex G c fs)
  | .no => False
section
variable {P K : Ev → Prop} {Q : Out → Prop} {G : Ev}
theorem tn_nx : Sat (.nx G) (Turn P K Q) ↔ P G := Iff.rfl
theorem tn_ct : Sat (.ct G) (Turn P K Q) ↔ P G := Iff.rfl
theorem tn_bk : Sat (.bk G) (Turn P K Q) ↔ K G := Iff.rfl
theorem tn_rt {b : Bool} {d : RA.D} : Sat (.rt b d) (Turn P K Q) ↔ Q (.rt b d) := Iff.rfl
theorem tn_ex {c : Nat} {fs : List RA.D} : Sat (.ex G c fs) (Turn P K Q) ↔ Q (.ex G c fs) := Iff.rfl
end
section
variable {tg : Tg} {b : Ev → Out} {f : Ev → Out} {Q : Out → Prop} {G : Ev}
theorem for_at {ds : List RA.D} (Inv : Ev → Nat → Ev → Prop) (i0 : Inv G 0 G)
    (h : ∀ i d G', ds[i]? = some d → Inv G i G' → ∃ G2, bindT tg d G' = some G2 ∧ Sat (b G2) (Turn (Inv G (i + 1)) (fun G3 => Sat (f G3) Q) Q)) (k : ∀ G', Inv G ds.length G' → Sat (f G') Q) : Sat (seqO (loopF tg b ds G) f) Q := by
  have key : ∀ (rest : List RA.D) (i : Nat) (G' : Ev), ds.drop i = rest → Inv G i G' → i + rest.length = ds.length → Sat (seqO (loopF tg b rest G') f) Q := by
    intro rest
    induction rest with
    | nil => intro i G' e hi hl; exact k G' (by rw [← hl]; exact hi)
    | cons d rest ih =>
      intro i G' e hi hl
      have hd : ds[i]? = some d := by rw [← List.head?_drop, e]; rfl
      obtain ⟨G2, h1, h2⟩ := h i d G' hd hi
      have e' : ds.drop (i + 1) = rest := by rw [← List.drop_drop, e]; rfl
      have hl' : i + 1 + rest.length = ds.length := by rw [← hl, List.length_cons]; omega
      unfold loopF
      rw [h1]
      dsimp only
      cases eb : b G2 with
      | nx G3 => rw [eb] at h2; exact ih (i + 1) G3 e' h2 hl'
      | ct G3 => rw [eb] at h2; exact ih (i + 1) G3 e' h2 hl'
      | bk G3 => rw [eb] at h2; exact h2
      | rt o d => rw [eb] at h2; exact h2
      | ex G3 c fs => rw [eb] at h2; exact h2
      | no => rw [eb] at h2; exact False.elim h2
  exact key ds 0 G rfl i0 (by simp)
theorem for_map {α : Type} {g : α → RA.D} {xs : List α} (Inv : Ev → Nat → Ev → Prop) (i0 : Inv G 0 G)
    (h : ∀ i x G', xs[i]? = some x → i < xs.length → Inv G i G' → ∃ G2, bindT tg (g x) G' = some G2 ∧ Sat (b G2) (Turn (Inv G (i + 1)) (fun G3 => Sat (f G3) Q) Q)) (k : ∀ G', Inv G xs.length G' → Sat (f G') Q) : Sat (seqO (loopF tg b (xs.map g) G) f) Q := by
  refine for_at Inv i0 (fun i d G' hd hi => ?_) (fun G' hG => k G' (by rw [List.length_map] at hG; exact hG))
  obtain ⟨x, hx, rfl⟩ := map_get hd
  exact h i x G' hx (List.getElem?_eq_some_iff.mp hx).1 hi
theorem for_rng {n : Nat} (Inv : Ev → Nat → Ev → Prop) (i0 : Inv G 0 G)
    (h : ∀ i G', i < n → Inv G i G' → ∃ G2, bindT tg (.int (i : Nat)) G' = some G2 ∧ Sat (b G2) (Turn (Inv G (i + 1)) (fun G3 => Sat (f G3) Q) Q)) (k : ∀ G', Inv G n G' → Sat (f G') Q) : Sat (seqO (loopF tg b (rangeD 0 (n : Int)) G) f) Q := by
  refine for_at Inv i0 (fun i d G' hd hi => ?_) (fun G' hG => k G' (by
    rw [range_len] at hG
    have e : ((n : Int) - 0).toNat = n := by omega
    rw [e] at hG; exact hG))
  obtain ⟨rfl, hi'⟩ := range_get hd
  rw [Int.zero_add]
  exact h i G' (by omega) hi
theorem whl_at {t : Ev → Rs Bool} (Inv : Ev → Nat → Ev → Prop) (m : Nat) (hm : m ≤ 999999999) (i0 : Inv G m G)
    (h : ∀ m G', Inv G m G' → (t G' = .ok false ∧ Sat (f G') Q) ∨ (t G' = .ok true ∧ Sat (b G') (Turn (fun G2 => ∃ m', m' < m ∧ Inv G m' G2) (fun G3 => Sat (f G3) Q) Q))) : Sat (seqO (loopW t b FUEL G) f) Q := by
  have key : ∀ (n m : Nat) (G' : Ev), m < n → Inv G m G' → Sat (seqO (loopW t b n G') f) Q := by
    intro n
    induction n with
    | zero => intro m G' hm; exact absurd hm (Nat.not_lt_zero m)
    | succ n ih =>
      intro m G' hm i
      unfold loopW
      rcases h m G' i with ⟨h1, h2⟩ | ⟨h1, h2⟩
      · rw [h1, Rs.out_ok, if_neg Bool.false_ne_true]; exact h2
      · rw [h1, Rs.out_ok, if_pos rfl]
        cases eb : b G' with
        | nx G2 => rw [eb] at h2; obtain ⟨m', h3, h4⟩ := h2; exact ih m' G2 (by omega) h4
        | ct G2 => rw [eb] at h2; obtain ⟨m', h3, h4⟩ := h2; exact ih m' G2 (by omega) h4
        | bk G2 => rw [eb] at h2; exact h2
        | rt o d => rw [eb] at h2; exact h2
        | ex G2 c fs => rw [eb] at h2; exact h2
        | no => rw [eb] at h2; exact False.elim h2
  exact key FUEL m G (by unfold FUEL; omega) i0
end
/-! ### items -/
/-- the item at a place -/
def it {α : Type} [Inhabited α] (l : List α) (i : Nat) : α := l.getD i default
section
variable {α : Type} [Inhabited α]
theorem it_get {l : List α} {i : Nat} (h : i < l.length) : l[i]? = some (it l i) := by unfold it; rw [List.getD_eq_getElem?_getD, List.getElem?_eq_getElem h]; rfl
theorem it_of {l : List α} {i : Nat} {x : α} (h : l[i]? = some x) : it l i = x := by unfold it; rw [List.getD_eq_getElem?_getD, h]; rfl
theorem it_mem {l : List α} {i : Nat} (h : i < l.length) : it l i ∈ l := List.mem_of_getElem? (it_get h)
theorem it_nth {l : List Nat} {i : Nat} : it l i = nth l i := (rfl)
theorem ixl {f : α → RA.D} {xs : List α} {i : Nat} (h : i < xs.length) : ixD (.lst (xs.map f)) (.int (i : Nat)) = .ok (f (it xs i)) := ix_lst (geta (by rw [List.getElem?_map, it_get h]; rfl))
theorem ixt {f : α → RA.D} {xs : List α} {i : Nat} (h : i < xs.length) : ixD (.tup (xs.map f)) (.int (i : Nat)) = .ok (f (it xs i)) := ix_tup (geta (by rw [List.getElem?_map, it_get h]; rfl))
theorem atI_neg {α : Type} {l : List α} {x : α} : atI (l ++ [x]) (-1) = some x := by
  unfold atI ixN
  rw [if_neg (by omega), if_pos (by rw [List.length_append, List.length_singleton]; omega)]
  have e : ((-1 : Int) + ((l ++ [x]).length : Nat)).toNat = l.length := by rw [List.length_append, List.length_singleton]; omega
  show (l ++ [x])[((-1 : Int) + ((l ++ [x]).length : Nat)).toNat]? = some x
  rw [e, List.getElem?_append_right (Nat.le_refl _), Nat.sub_self]; rfl
theorem snoc_of {l : List α} (h : 0 < l.length) : ∃ l' : List α, l = l' ++ [it l (l.length - 1)] := by
  have ne : l ≠ [] := fun z => by rw [z] at h; cases h
  refine ⟨l.dropLast, ?_⟩
  have e := List.dropLast_concat_getLast ne
  have : it l (l.length - 1) = l.getLast ne := it_of (by rw [List.getLast_eq_getElem, List.getElem?_eq_getElem (by omega)])
  rw [this, e]
theorem ixl_last {f : α → RA.D} {xs : List α} (h : 0 < xs.length) : ixD (.lst (xs.map f)) (.int (-1)) = .ok (f (it xs (xs.length - 1))) := by
  obtain ⟨l', e⟩ := snoc_of h
  refine ix_lst ?_
  generalize it xs (xs.length - 1) = z at e
  subst e
  rw [List.map_append]
  exact atI_neg
theorem ixl_zero {f : α → RA.D} {xs : List α} (h : 0 < xs.length) : ixD (.lst (xs.map f)) (.int 0) = .ok (f (it xs 0)) := ixl h
theorem ixt_zero {f : α → RA.D} {xs : List α} (h : 0 < xs.length) : ixD (.tup (xs.map f)) (.int 0) = .ok (f (it xs 0)) := ixt h
end
theorem ixs {s : List Nat} {i : Nat} (h : i < s.length) (hs : s.length ≤ 16777216) : ixD (.str s) (.int (i : Nat)) = .ok (.str [nth s i]) := ix_sign (line_big hs) (geta (nth_get h))
theorem ixs_last {s : List Nat} (h : 0 < s.length) (hs : s.length ≤ 16777216) : ixD (.str s) (.int (-1)) = .ok (.str [nth s (s.length - 1)]) := by
  obtain ⟨l', e⟩ := snoc_of h
  refine ix_sign (line_big hs) ?_
  rw [it_nth] at e
  generalize nth s (s.length - 1) = z at e
  subst e
  exact atI_neg
section
variable {a b c : RA.D} {l : List RA.D}
theorem ixT0 : ixD (.tup (a :: l)) (.int 0) = .ok a := ix_tup (by unfold atI ixN; rw [if_pos (by decide), if_pos (by rw [List.length_cons]; omega)]; rfl)
theorem ixT1 : ixD (.tup [a, b]) (.int 1) = .ok b := (rfl)
theorem ixT12 : ixD (.tup [a, b, c]) (.int 1) = .ok b := (rfl)
theorem ixT22 : ixD (.tup [a, b, c]) (.int 2) = .ok c := (rfl)
theorem ixL0 : ixD (.lst [a, b]) (.int 0) = .ok a := (rfl)
theorem ixL1 : ixD (.lst [a, b]) (.int 1) = .ok b := (rfl)
end
section
variable {s : List Nat} {rows : List (List Nat)} {marks : List Bool}
theorem ixM0 : ixD (mD s rows marks) (.int 0) = .ok (.str s) := (rfl)
theorem ixM1 : ixD (mD s rows marks) (.int 1) = .ok (.tup (rows.map (fun r : List Nat => RA.D.tup (r.map (fun (n : Nat) => RA.D.int n))))) := (rfl)
theorem ixM2 : ixD (mD s rows marks) (.int 2) = .ok (.tup (marks.map .bl)) := (rfl)
end
theorem lenS {s : List Nat} (h : s.length ≤ 16777216) : biD .len [.str s] = .ok (.val, .int s.length) := len_str (line_big h)
theorem slS {s : List Nat} {lo hi : Option Int} (h : s.length ≤ 16777216) : slD (.str s) lo hi = .ok (.val, .str (cutD s lo hi)) := if_pos (line_big h)
theorem rvS {s : List Nat} (h : s.length ≤ 16777216) : rvD (.str s) = .ok (.val, .str s.reverse) := if_pos (line_big h)
theorem catS {s t : List Nat} (h : s.length + t.length ≤ 16777216) : binD .add (.str s) (.str t) = .ok (.val, .str (s ++ t)) := b_cat (line_big h)
theorem appL {G : Ev} {i : Nat} {f : Fl} {d : RA.D} {xs : List RA.D} (hf : f ≠ .tmp) (hl : xs.length ≤ 16777215) : appO G i (.ok (f, d)) (some (some (true, .lst xs))) = .nx (G.set i (some (true, .lst (xs ++ [d])))) := appO_ok hf (line_lt hl)
theorem unp2 {G : Ev} {i j : Nat} {f : Fl} {a b : RA.D} (hf : f ≠ .tmp) : unpO G [i, j] (f, .tup [a, b]) = .nx ((G.set i (some (false, a))).set j (some (false, b))) := unpO_ok hf rfl
theorem unp3 {G : Ev} {i j k : Nat} {f : Fl} {a b c : RA.D} (hf : f ≠ .tmp) : unpO G [i, j, k] (f, .tup [a, b, c]) = .nx (((G.set i (some (false, a))).set j (some (false, b))).set k (some (false, c))) := unpO_ok hf rfl
theorem r1 {n : Nat} (h : n ≤ 1000000000) : rng1O (.int (n : Int)) = .ok (rangeD 0 (n : Int)) := rng1O_ok (small_nat (by omega))
theorem r2 {a n : Nat} (h : a ≤ 1000000000) (h2 : n ≤ 1000000000) : rng2O (.int (a : Int)) (.int (n : Int)) = .ok (rangeD (a : Int) (n : Int)) := rng2O_ok (small_nat (by omega)) (small_nat (by omega))
theorem r2one {n : Nat} (h2 : n ≤ 1000000000) : rng2O (.int 1) (.int (n : Int)) = .ok (rangeD ((1 : Nat) : Int) (n : Int)) := rng2O_ok (by rfl) (small_nat (by omega))
/-- the numbers of a range -/
theorem rng_map {n : Nat} : rangeD 0 (n : Int) = (List.range n).map (fun (n : Nat) => RA.D.int n) := by
  unfold rangeD
  have e : ((n : Int) - 0).toNat = n := by omega
  rw [e]
  refine List.map_congr_left fun i _ => ?_
  rw [Int.zero_add]
/-! ### comprehensions -/
def compO (F : FT) (t e : IE) (tg : Tg) (G : Ev) (ds : List RA.D) : Rs (Fl × RA.D) := if (tgSlots tg).all (freeAt G) = true ∧ ds.length < sizeLine then ((compGo (tstO F t) (ev F e) tg (forget (tgSlots tg) G) ds).quiet).bind fun rs => .ok (.own, .lst rs) else .no
section
variable {F : FT} {G : Ev} {tg : Tg} {t e : IE}
theorem e_comp2 {i : II} : ev F (.comp tg i t e) G = (evI F i G).bind (compO F t e tg G) := (rfl)
/-- a comprehension of all -/
theorem comp_of {α : Type} {f : α → RA.D} {xs : List α} (v : α → RA.D) (hf : (tgSlots tg).all (freeAt G) = true) (hl : xs.length ≤ 16777215) (h : ∀ i x, xs[i]? = some x → i < xs.length → ∃ G', bindT tg (f x) (forget (tgSlots tg) G) = some G' ∧ ∃ fl, fl ≠ Fl.tmp ∧ ev F e G' = .ok (fl, v x)) :
    compO F (.k (.bl true)) e tg G (xs.map f) = .ok (.own, .lst (xs.map v)) := by
  unfold compO
  rw [if_pos ⟨hf, line_lt (by rw [List.length_map]; exact hl)⟩, comp_list f v xs fun x hx => ?_]
  · rfl
  · obtain ⟨i, hi, e⟩ := List.mem_iff_getElem.mp hx
    obtain ⟨G', h1, fl, h2, h3⟩ := h i x (by rw [List.getElem?_eq_getElem hi, e]) hi
    exact ⟨G', h1, rfl, fl, h2, h3⟩
/-- .. of those that are so -/
theorem comp_if {α : Type} {f : α → RA.D} {xs : List α} (p : α → Bool) (v : α → RA.D) (hf : (tgSlots tg).all (freeAt G) = true) (hl : xs.length ≤ 16777215) (h : ∀ i x, xs[i]? = some x → i < xs.length → ∃ G', bindT tg (f x) (forget (tgSlots tg) G) = some G' ∧ asB (ev F t G') = .ok (p x) ∧ (p x = true → ∃ fl, fl ≠ Fl.tmp ∧ ev F e G' = .ok (fl, v x))) :
    compO F t e tg G (xs.map f) = .ok (.own, .lst ((xs.filter p).map v)) := by
  have key : ∀ (ys : List α), (∀ x ∈ ys, x ∈ xs) → compGo (tstO F t) (ev F e) tg (forget (tgSlots tg) G) (ys.map f) = .ok ((ys.filter p).map v) := by
    intro ys
    induction ys with
    | nil => intro _; rfl
    | cons x ys ih =>
      intro hs
      have ih := ih fun y hy => hs y (List.mem_cons_of_mem _ hy)
      obtain ⟨i, hi, e⟩ := List.mem_iff_getElem.mp (hs x List.mem_cons_self)
      obtain ⟨G', h1, h2, h3⟩ := h i x (by rw [List.getElem?_eq_getElem hi, e]) hi
      rw [List.map_cons]
      unfold compGo
      rw [h1]
      dsimp only
      rw [show tstO F t G' = .ok (p x) from h2, Rs.bind_ok]
      cases hp : p x with
      | true =>
        obtain ⟨fl, k1, k2⟩ := h3 hp
        rw [if_pos rfl, k2, Rs.bind_ok, if_neg k1, ih, Rs.bind_ok, List.filter_cons_of_pos hp, List.map_cons]
      | false => rw [if_neg Bool.false_ne_true, ih, List.filter_cons_of_neg (by rw [hp]; exact Bool.false_ne_true)]
  unfold compO
  rw [if_pos ⟨hf, line_lt (by rw [List.length_map]; exact hl)⟩, key xs fun _ h => h]
  rfl
end
/-! ### whole numbers from 0 on -/
theorem nat1 (n : Nat) : (n : Int) + 1 = ((n + 1 : Nat) : Int) := (rfl)
theorem nat1l (n : Nat) : (1 : Int) + n = ((1 + n : Nat) : Int) := (Int.natCast_add 1 n).symm
theorem natA (a b : Nat) : (a : Int) + b = ((a + b : Nat) : Int) := (Int.natCast_add a b).symm
theorem natM (a b : Nat) : (a : Int) * b = ((a * b : Nat) : Int) := (Int.natCast_mul a b).symm
theorem natD (a b : Nat) : (a : Int) / b = ((a / b : Nat) : Int) := (Int.natCast_ediv a b).symm
theorem natR (a b : Nat) : (a : Int) % b = ((a % b : Nat) : Int) := (Int.natCast_emod a b).symm
theorem natS {a b : Nat} (h : b ≤ a) : (a : Int) - b = ((a - b : Nat) : Int) := by omega
theorem natS1 {a : Nat} (h : 1 ≤ a) : (a : Int) - 1 = ((a - 1 : Nat) : Int) := by omega
theorem natE (a b : Nat) : ((a : Int) = b) = (a = b) := propext Int.ofNat_inj
theorem natL (a b : Nat) : ((a : Int) < b) = (a < b) := propext Int.ofNat_lt
theorem natLe (a b : Nat) : ((a : Int) ≤ b) = (a ≤ b) := propext Int.ofNat_le
theorem natL0 (b : Nat) : ((0 : Int) < b) = (0 < b) := propext (by omega)
theorem natN0 (b : Nat) : ((b : Int) < 0) = False := propext ⟨fun h => by omega, fun h => h.elim⟩
theorem nat0 (b : Nat) : ((b : Int) = 0) = (b = 0) := propext (by omega)
/-- max of a list -/
theorem max_nats {l : List Nat} (h : 0 < l.length) : biD .max [.lst (l.map (fun (n : Nat) => RA.D.int n))] = .ok (.val, .int (mx l : Nat)) := by
  have e1 : ∀ l : List Nat, intsOf (l.map (fun (n : Nat) => RA.D.int n)) = some (l.map fun n : Nat => (n : Int)) := by
    intro l
    induction l with
    | nil => rfl
    | cons a l ih => rw [List.map_cons, List.map_cons]; unfold intsOf; rw [ih]; rfl
  have e2 : ∀ (l : List Nat) (x : Nat), (l.map fun n : Nat => (n : Int)).foldl (fun a b => if a < b then b else a) (x : Int) = (l.foldl max x : Nat) := by
    intro l
    induction l with
    | nil => intro x; rfl
    | cons a l ih =>
      intro x
      rw [List.map_cons, List.foldl_cons, List.foldl_cons, ← ih]
      congr 1
      by_cases q : x < a
      · rw [if_pos (Int.ofNat_lt.mpr q), Nat.max_eq_right (by omega)]
      · rw [if_neg (fun z => q (Int.ofNat_lt.mp z)), Nat.max_eq_left (by omega)]
  show (match intsOf (l.map (fun (n : Nat) => RA.D.int n)) with | some ns => (match maxL ns with | some m => Rs.ok (Fl.val, RA.D.int m) | none => .no) | none => .no) = _
  rw [e1]
  cases l with
  | nil => cases h
  | cons a l =>
    show (match maxL ((a : Int) :: l.map fun n : Nat => (n : Int)) with | some m => Rs.ok (Fl.val, RA.D.int m) | none => .no) = _
    have : mx (a :: l) = l.foldl max a := by unfold mx; rw [List.foldl_cons, Nat.max_eq_right (Nat.zero_le _)]
    rw [this, ← e2]
    rfl
/-! ### keys -/
theorem tupF {α : Type} [DecidableEq α] {f : α → RA.D} (tk : ∀ a, tupKey (f a) = true) (inj : ∀ a b, keyD (f a) = keyD (f b) → a = b) : KeyF f := by
  have al : ∀ l : List (α × RA.D), ((kv f l).all fun x => tupKey x.1) = true := fun l => by
    rw [List.all_eq_true]
    intro x hx
    obtain ⟨p, _, rfl⟩ := List.mem_map.mp hx
    exact tk _
  refine ⟨fun a b => ?_, fun l a => ?_, fun l => ?_⟩
  · unfold keyEq
    by_cases q : a = b
    · subst q; rw [decide_eq_true rfl, decide_eq_true rfl]
    · rw [decide_eq_false q, decide_eq_false (fun z => q (inj a b z))]
  · unfold keysOk keysT
    rw [tk, al, Bool.and_self, Bool.or_true]
  · show (if _ then _ else _) = _
    rw [if_pos (by rw [al, Bool.or_true]), kv_len]
theorem keyDs_nats : ∀ l : List Nat, keyDs (l.map (fun (n : Nat) => RA.D.int n)) = some (l.map fun n : Nat => NestedKey.num (n : Int))
  | [] => rfl
  | a :: l => by
    rw [List.map_cons, List.map_cons]
    show (match keyD (.int (a : Nat)), keyDs (l.map (fun (n : Nat) => RA.D.int n)) with | some k, some ks => some (k :: ks) | _, _ => none) = _
    rw [keyDs_nats l]; rfl
theorem depth_nats : ∀ l : List Nat, NestedKey.depthAll (l.map fun n : Nat => NestedKey.num (n : Int)) = 0
  | [] => rfl
  | a :: l => by
    rw [List.map_cons]
    show max 0 (NestedKey.depthAll _) = 0
    rw [depth_nats l]; rfl
theorem nums_inj : ∀ {l l' : List Nat}, (l.map fun n : Nat => NestedKey.num (n : Int)) = (l'.map fun n : Nat => NestedKey.num (n : Int)) → l = l'
  | [], [], _ => rfl
  | [], _ :: _, h => by cases h
  | _ :: _, [], h => by cases h
  | a :: l, b :: l', h => by
    rw [List.map_cons, List.map_cons, List.cons.injEq, NestedKey.num.injEq] at h
    rw [Int.ofNat_inj.mp h.1, nums_inj h.2]
theorem keyL : KeyF fun l : List Nat => RA.D.tup (l.map (fun (n : Nat) => RA.D.int n)) := by
  refine tupF (fun l => ?_) fun a b z => ?_
  · unfold tupKey
    have e : keyD (.tup (l.map (fun (n : Nat) => RA.D.int n))) = some (.tup (l.map fun n : Nat => NestedKey.num (n : Int))) := by
      show (keyDs _).map NestedKey.tup = _
      rw [keyDs_nats]; rfl
    rw [e]
    show decide (NestedKey.depthAll _ + 1 ≤ 8) = true
    rw [depth_nats]; rfl
  · have z : (keyDs (a.map (fun (n : Nat) => RA.D.int n))).map NestedKey.tup = (keyDs (b.map (fun (n : Nat) => RA.D.int n))).map NestedKey.tup := z
    rw [keyDs_nats, keyDs_nats, Option.map_some, Option.map_some, Option.some.injEq, NestedKey.tup.injEq] at z
    exact nums_inj z
end RA
/-! W7: least machines, walked. -/
namespace RA
open PySem PySem.Spec PyProof.Rows L2
local macro_rules | `(tactic| dsimp! [$xs,*]) => `(tactic| simp (disch := first | assumption | omega | (simp only [List.length_map, List.length_append, List.length_cons, List.length_nil, List.length_range, List.length_set]; omega) | decide | rfl) only [inn_lst, inn_dct, inn_ln, isLn_lst, isLn_dct, tstO_eq, x_seq, x_set, x_own, x_do, x_if, x_for, x_whl, x_ret, x_retN, x_pass, x_brk, x_cnt, x_rse, x_fgt, x_frz, x_retp, x_app, x_aug, x_unp, x_put, e_v, e_pk, e_k, e_gl, e_b, e_neg, e_cmp, e_and, e_or, e_not, e_ife, e_tup, e_lst, e_dct, e_dct1, e_lset, e_ix, e_sl, e_rv, rv_lst, e_out, e_bi, e_me, e_call, es_nil, es_cons, i_ex, i_rng1, i_rng2, i_zip, i_rev, valO_ok, pkO_ok, glO_ok, negO_ok, frzO_ok, retO_ok, augO_add, augO_sub, walkO_lst, walkO_tup, walkO_str, zipO_ok, zipI_ok, revO_ok, asB_ok, items_lst, items_tup, items_str, bindT_one, bindT_tup, setAll_nil, setAll_cons, forget_nil, forget_cons, prt_int, prt_out, isOut, keepOk_nil, keepOk_cons, recv_str, b_add, b_sub, c_lt, c_le, c_gt, c_ge, c_ltS, c_gtS, c_eqI, c_neI, c_eqS, c_neS, c_eqB, c_neB, c_isn, c_isnt, c_memS, c_nmemS, sl_lst, len_lst, len_tup, is_str, is_intI, is_boolI, is_boolB, tuple_lst, list_lst, list_tup, find_one, seqO_nx, seqO_no, seqO_rt, seqO_ex, seqO_bk, seqO_ct, seqO_seqO, seqO_ite, x_nil, sat_nx, sat_rt, sat_ex, sat_thru, sat_thru_ct, sat_nxt, sat_t1, sat_t1c, sat_t1r, sat_t1e, Rs.bind_ok, Rs.bind_ex, Rs.out_ok, Rs.out_ex, List.set_cons_succ, List.set_cons_zero, List.getElem?_cons_succ, List.getElem?_cons_zero, List.map_cons, List.map_nil, List.cons_append, List.nil_append, startG, List.reduceReplicate, List.length_cons, List.length_nil, Nat.reduceAdd, Nat.reduceSub, Nat.zero_add, Nat.add_zero, Nat.zero_le, Nat.reduceLeDiff, List.append_nil, reduceCtorEq, if_true, if_false, ite_true, ite_false, ne_eq, not_false_eq_true, not_true_eq_false, decide_true, decide_false, decide_not, Bool.not_true, Bool.not_false, Bool.and_true, Bool.true_and, Bool.and_self, Bool.false_eq_true, and_self, and_true, true_and, decide_eq_true_eq, Int.reduceEq, Int.cast_ofNat_Int, Int.reduceNe, Int.reduceLT, Int.reduceLE, Int.reduceNeg, Int.reduceAdd, Int.reduceSub, tgSlots, freeAt, List.all_cons, List.all_nil, isNon_non, isNon_str, isNon_int, isNon_bl, isNon_tup, isNon_lst, isNon_opq, fin_nx, fin_rt, fin_ex, e_xt, Bool.true_eq_false, eq_self, isc_non, isc_opq, x_xs, x_try, tryO_nx, tryO_rt, tryO_ex, hdG_as, hdG_cst, List.contains_cons, List.contains_nil, Nat.reduceBEq, beq_self_eq_true, up_nil, up_cons, tn_nx, tn_ct, tn_bk, tn_rt, tn_ex, b_fdiv, b_mod, max_two, min_two, ixl, ixt, ixl_last, ixl_zero, ixt_zero, ixs, ixs_last, ixT0, ixT1, ixT12, ixT22, ixL0, ixL1, ixM0, ixM1, ixM2, lenS, slS, rvS, catS, appL, unp2, unp3, r1, r2, r2one, e_comp2, it_nth, nat1, nat1l, natA, natM, natD, natR, natS, natS1, natE, natL, natLe, natL0, natN0, nat0, max_nats, Bool.not_eq_true', Bool.not_eq_false', List.length_map, List.length_append, List.length_range, Bool.true_or, Bool.false_or, Bool.or_true, Bool.or_false, Bool.and_false, Bool.false_and, Bool.or_self, decide_eq_false_iff_not, Nat.lt_irrefl, Bool.not_eq_eq_eq_not, not_true, not_false_iff, Nat.not_lt_zero, $xs,*])
/- 43 thinned(letters, ways, marks, lots); slots: 0=letters 1=ways 2=marks 3=lots 4=rows 5=truths 6=room 7=goal; calls:  -/
def i_thinned : IS := (.seq (.own 4 (.lst .nil)) (.seq (.own 5 (.lst .nil)) (.seq (.for_ (.one 6) (.rng1 (.bi .len (.cons (.v 1) .nil))) (.seq (.if_ (.cmp .eq (.ix (.v 3) (.v 6)) (.bi .len (.cons (.pk 4) .nil))) (.seq (.app 4 (.bi .tuple (.cons (.comp (.one 7) (.ex (.ix (.v 1) (.v 6))) (.k (.bl true)) (.ix (.v 3) (.v 7))) .nil))) (.seq (.app 5 (.ix (.v 2) (.v 6))) .nil)) .nil) .nil)) (.seq (.ret (.tup (.cons (.v 0) (.cons (.bi .tuple (.cons (.pk 4) .nil)) (.cons (.bi .tuple (.cons (.pk 5) .nil)) .nil))))) .nil))))
def f_thinned : FT := fun _ _ => .no
def m_thinned : List RA.D → Rs (Bool × RA.D) := mk 4 8 f_thinned i_thinned
/- 44 numbered(keys); slots: 0=keys 1=numbers 2=lots 3=key; calls:  -/
def i_numbered : IS := (.seq (.own 1 (.dct .nil .nil)) (.seq (.own 2 (.lst .nil)) (.seq (.for_ (.one 3) (.ex (.v 0)) (.seq (.if_ (.cmp .nmem (.v 3) (.pk 1)) (.seq (.put 1 (.v 3) (.bi .len (.cons (.pk 1) .nil))) .nil) .nil) (.seq (.app 2 (.ix (.pk 1) (.v 3))) .nil))) (.seq (.retp 2) .nil))))
def f_numbered : FT := fun _ _ => .no
def m_numbered : List RA.D → Rs (Bool × RA.D) := mk 1 4 f_numbered i_numbered
/- 45 key_of(lots, room, row); slots: 0=lots 1=room 2=row 3=goal; calls:  -/
def i_key_of : IS := (.seq (.ret (.tup (.cons (.ix (.v 0) (.v 1)) (.cons (.bi .tuple (.cons (.comp (.one 3) (.ex (.v 2)) (.k (.bl true)) (.ix (.v 0) (.v 3))) .nil)) .nil)))) .nil)
def f_key_of : FT := fun _ _ => .no
def m_key_of : List RA.D → Rs (Bool × RA.D) := mk 3 4 f_key_of i_key_of
/- 46 rounds(ways, marks, most); slots: 0=ways 1=marks 2=most 3=lots 4=told 5=after 6=room; calls: 44=numbered 45=key_of -/
def i_rounds : IS := (.seq (.set 3 (.call 44 (.cons (.v 1) .nil))) (.seq (.own 4 (.lst (.cons (.v 3) .nil))) (.seq (.whl (.cmp .lt (.bi .max (.cons (.v 3) .nil)) (.v 2)) (.seq (.set 5 (.call 44 (.cons (.comp (.one 6) (.rng1 (.bi .len (.cons (.v 0) .nil))) (.k (.bl true)) (.call 45 (.cons (.v 3) (.cons (.v 6) (.cons (.ix (.v 0) (.v 6)) .nil))))) .nil))) (.seq (.if_ (.cmp .eq (.bi .max (.cons (.v 5) .nil)) (.bi .max (.cons (.v 3) .nil))) (.seq (.retp 4) .nil) .nil) (.seq (.set 3 (.v 5)) (.seq (.app 4 (.v 3)) .nil))))) (.seq (.retp 4) .nil))))
def f_rounds : FT := fun n ds => match n, ds with | 44, ds => m_numbered ds | 45, ds => m_key_of ds | _, _ => .no
@[simp] theorem f_rounds_44 (ds : List RA.D) : f_rounds 44 ds = m_numbered ds := (rfl)
@[simp] theorem f_rounds_45 (ds : List RA.D) : f_rounds 45 ds = m_key_of ds := (rfl)
def m_rounds : List RA.D → Rs (Bool × RA.D) := mk 3 7 f_rounds i_rounds
structure Numb {α : Type} [Inhabited α] (keys : List α) (lots : List Nat) : Prop where
  len : lots.length = keys.length
  eq : ∀ i < keys.length, ∀ j < keys.length, (nth lots i = nth lots j ↔ it keys i = it keys j)
  gr : Grw lots
structure NumbI {α : Type} [Inhabited α] (keys : List α) (l : List (α × Nat)) (lots : List Nat) (i : Nat) : Prop where
  nd : (l.map (·.1)).Nodup
  vl : ∀ (x : Nat) (p : α × Nat), l[x]? = some p → p.2 = x
  ll : l.length ≤ i
  len : lots.length = i
  at' : ∀ j < i, (it keys j, nth lots j) ∈ l
  cov : ∀ p ∈ l, ∃ j, j < i ∧ nth lots j = p.2
  gr : Grw lots
theorem mem_uniq {α β : Type} {l : List (α × β)} (nd : (l.map (·.1)).Nodup) {a : α} {x y : β} (h1 : (a, x) ∈ l) (h2 : (a, y) ∈ l) : x = y := by
  induction l with
  | nil => cases h1
  | cons p l ih =>
    rw [List.map_cons, List.nodup_cons] at nd
    rcases List.mem_cons.mp h1 with e1 | e1 <;> rcases List.mem_cons.mp h2 with e2 | e2
    · rw [← e1] at e2; cases e2; rfl
    · exact absurd (List.mem_map.mpr ⟨_, e2, by rw [← e1]⟩) nd.1
    · exact absurd (List.mem_map.mpr ⟨_, e1, by rw [← e2]⟩) nd.1
    · exact ih nd.2 e1 e2
section
variable {α : Type} [Inhabited α] {keys : List α} {l : List (α × Nat)} {lots : List Nat} {i : Nat}
theorem NumbI.start : NumbI keys [] [] 0 := ⟨List.nodup_nil, fun x p h => by simp at h, Nat.le_refl _, rfl, fun j h => absurd h (Nat.not_lt_zero _), fun p h => (by cases h), fun j h => absurd h (Nat.not_lt_zero _)⟩
theorem Grw.snoc {l : List Nat} (h : Grw l) {y : Nat} (hy : ∀ x, y = x + 1 → ∃ j, j < l.length ∧ nth l j = x) : Grw (l ++ [y]) := by
  intro i hi x e
  rw [List.length_append, List.length_singleton] at hi
  by_cases q : i < l.length
  · rw [nth_app q] at e
    obtain ⟨j, h1, h2⟩ := h i q x e
    exact ⟨j, h1, by rw [nth_app (by omega)]; exact h2⟩
  · have : i = l.length := by omega
    subst this
    rw [nth_at] at e
    obtain ⟨j, h1, h2⟩ := hy x e
    exact ⟨j, h1, by rw [nth_app h1]; exact h2⟩
theorem NumbI.step (I : NumbI keys l lots i) {y : Nat} (hm : (it keys i, y) ∈ l) : NumbI keys l (lots ++ [y]) (i + 1) := by
  obtain ⟨x, hx, e⟩ := List.mem_iff_getElem.mp hm
  have vy : y = x := I.vl x _ (by rw [List.getElem?_eq_getElem hx, e])
  refine ⟨I.nd, I.vl, Nat.le_succ_of_le I.ll, by rw [List.length_append, List.length_singleton, I.len], fun j hj => ?_, fun p hp => ?_, I.gr.snoc fun z hz => ?_⟩
  · by_cases q : j < i
    · rw [nth_app (by rw [I.len]; exact q)]; exact I.at' j q
    · have : j = i := by omega
      subst this
      rw [← I.len, nth_at, I.len]; exact hm
  · obtain ⟨j, h1, h2⟩ := I.cov p hp
    exact ⟨j, by omega, by rw [nth_app (by rw [I.len]; exact h1)]; exact h2⟩
  · obtain ⟨j, h1, h2⟩ := I.cov _ (List.getElem_mem (show z < l.length by omega))
    rw [I.vl z _ (List.getElem?_eq_getElem (by omega))] at h2
    exact ⟨j, by rw [I.len]; exact h1, h2⟩
theorem NumbI.new (I : NumbI keys l lots i) (hn : it keys i ∉ l.map (·.1)) : NumbI keys (l ++ [(it keys i, l.length)]) (lots ++ [l.length]) (i + 1) := by
  refine ⟨?_, fun x p h => ?_, by rw [List.length_append, List.length_singleton]; exact Nat.succ_le_succ I.ll, by rw [List.length_append, List.length_singleton, I.len], fun j hj => ?_, fun p hp => ?_, I.gr.snoc fun z hz => ?_⟩
  · rw [List.map_append, List.nodup_append]
    refine ⟨I.nd, by simp, fun a ha b hb => ?_⟩
    have : b = it keys i := by simpa using hb
    subst this
    exact fun z => hn (z ▸ ha)
  · by_cases q : x < l.length
    · rw [List.getElem?_append_left q] at h; exact I.vl x p h
    · have hx := (List.getElem?_eq_some_iff.mp h).1
      rw [List.length_append, List.length_singleton] at hx
      have : x = l.length := by omega
      subst this
      rw [List.getElem?_append_right (Nat.le_refl _), Nat.sub_self] at h
      cases h; rfl
  · by_cases q : j < i
    · rw [nth_app (by rw [I.len]; exact q)]; exact List.mem_append_left _ (I.at' j q)
    · have : j = i := by omega
      subst this
      rw [← I.len, nth_at, I.len]; exact List.mem_append_right _ (List.mem_singleton.mpr rfl)
  · rcases List.mem_append.mp hp with z | z
    · obtain ⟨j, h1, h2⟩ := I.cov p z
      exact ⟨j, by omega, by rw [nth_app (by rw [I.len]; exact h1)]; exact h2⟩
    · rw [List.mem_singleton.mp z]
      exact ⟨i, by omega, by rw [← I.len, nth_at]⟩
  · obtain ⟨j, h1, h2⟩ := I.cov _ (List.getElem_mem (show z < l.length by omega))
    rw [I.vl z _ (List.getElem?_eq_getElem (by omega))] at h2
    exact ⟨j, by rw [I.len]; exact h1, h2⟩
theorem NumbI.done (I : NumbI keys l lots keys.length) : Numb keys lots := by
  refine ⟨I.len, fun i hi j hj => ⟨fun e => ?_, fun e => ?_⟩, I.gr⟩
  · have h1 := I.at' i hi
    have h2 := I.at' j hj
    obtain ⟨x, hx, ex⟩ := List.mem_iff_getElem.mp h1
    obtain ⟨y, hy, ey⟩ := List.mem_iff_getElem.mp h2
    have v1 : nth lots i = x := I.vl x _ (by rw [List.getElem?_eq_getElem hx, ex])
    have v2 : nth lots j = y := I.vl y _ (by rw [List.getElem?_eq_getElem hy, ey])
    have : x = y := by omega
    subst this
    rw [ex] at ey
    exact congrArg (·.1) ey
  · have h1 := I.at' i hi
    have h2 := I.at' j hj
    rw [e] at h1
    exact mem_uniq I.nd h1 h2
end
/-- the ways of rooms, by rows -/
abbrev go (rows : List (List Nat)) : Nat → Nat → Nat := fun r k => nth (it rows r) k
structure Rws (m n : Nat) (rows : List (List Nat)) : Prop where
  len : rows.length = n
  row : ∀ r < n, (it rows r).length = m ∧ ∀ g ∈ it rows r, g < n
theorem Rws.clo {m n : Nat} {rows : List (List Nat)} (R : Rws m n rows) : Clo m n (go rows) := fun r hr k hk => by
  obtain ⟨h1, h2⟩ := R.row r hr
  exact h2 _ (nth_mem (by omega))
end RA
/-! W8: rows of states, walked: first words, least machines, pairs of rooms. -/
namespace RA
open PySem PySem.Spec PyProof.Rows L2
local macro_rules | `(tactic| dsimp! [$xs,*]) => `(tactic| simp (disch := first | assumption | omega | (simp only [List.length_map, List.length_append, List.length_cons, List.length_nil, List.length_range, List.length_set]; omega) | decide | rfl) only [inn_lst, inn_dct, inn_ln, isLn_lst, isLn_dct, tstO_eq, x_seq, x_set, x_own, x_do, x_if, x_for, x_whl, x_ret, x_retN, x_pass, x_brk, x_cnt, x_rse, x_fgt, x_frz, x_retp, x_app, x_aug, x_unp, x_put, e_v, e_pk, e_k, e_gl, e_b, e_neg, e_cmp, e_and, e_or, e_not, e_ife, e_tup, e_lst, e_dct, e_dct1, e_lset, e_ix, e_sl, e_rv, rv_lst, e_out, e_bi, e_me, e_call, es_nil, es_cons, i_ex, i_rng1, i_rng2, i_zip, i_rev, valO_ok, pkO_ok, glO_ok, negO_ok, frzO_ok, retO_ok, augO_add, augO_sub, walkO_lst, walkO_tup, walkO_str, zipO_ok, zipI_ok, revO_ok, asB_ok, items_lst, items_tup, items_str, bindT_one, bindT_tup, setAll_nil, setAll_cons, forget_nil, forget_cons, prt_int, prt_out, isOut, keepOk_nil, keepOk_cons, recv_str, b_add, b_sub, c_lt, c_le, c_gt, c_ge, c_ltS, c_gtS, c_eqI, c_neI, c_eqS, c_neS, c_eqB, c_neB, c_isn, c_isnt, c_memS, c_nmemS, sl_lst, len_lst, len_tup, is_str, is_intI, is_boolI, is_boolB, tuple_lst, list_lst, list_tup, find_one, seqO_nx, seqO_no, seqO_rt, seqO_ex, seqO_bk, seqO_ct, seqO_seqO, seqO_ite, x_nil, sat_nx, sat_rt, sat_ex, sat_thru, sat_thru_ct, sat_nxt, sat_t1, sat_t1c, sat_t1r, sat_t1e, Rs.bind_ok, Rs.bind_ex, Rs.out_ok, Rs.out_ex, List.set_cons_succ, List.set_cons_zero, List.getElem?_cons_succ, List.getElem?_cons_zero, List.map_cons, List.map_nil, List.cons_append, List.nil_append, startG, List.reduceReplicate, List.length_cons, List.length_nil, Nat.reduceAdd, Nat.reduceSub, Nat.zero_add, Nat.add_zero, Nat.zero_le, Nat.reduceLeDiff, List.append_nil, reduceCtorEq, if_true, if_false, ite_true, ite_false, ne_eq, not_false_eq_true, not_true_eq_false, decide_true, decide_false, decide_not, Bool.not_true, Bool.not_false, Bool.and_true, Bool.true_and, Bool.and_self, Bool.false_eq_true, and_self, and_true, true_and, decide_eq_true_eq, Int.reduceEq, Int.cast_ofNat_Int, Int.reduceNe, Int.reduceLT, Int.reduceLE, Int.reduceNeg, Int.reduceAdd, Int.reduceSub, tgSlots, freeAt, List.all_cons, List.all_nil, up_nil, up_cons, tn_nx, tn_ct, tn_bk, tn_rt, tn_ex, b_fdiv, b_mod, max_two, min_two, ixl, ixt, ixl_last, ixl_zero, ixt_zero, ixs, ixs_last, ixT0, ixT1, ixT12, ixT22, ixL0, ixL1, ixM0, ixM1, ixM2, lenS, slS, rvS, catS, appL, unp2, unp3, r1, r2, r2one, e_comp2, it_nth, nat1, nat1l, natA, natM, natD, natR, natS, natS1, natE, natL, natLe, natL0, natN0, nat0, max_nats, Bool.not_eq_true', Bool.not_eq_false', List.length_map, List.length_append, List.length_range, Bool.true_or, Bool.false_or, Bool.or_true, Bool.or_false, Bool.and_false, Bool.false_and, Bool.or_self, decide_eq_false_iff_not, Nat.lt_irrefl, Bool.not_eq_eq_eq_not, not_true, not_false_iff, Nat.not_lt_zero, $xs,*])
/- 47 least(machine); slots: 0=machine 1=rooms 2=places 3=room 4=ways 5=marks 6=lots 7=told 8=goal; calls: 43=thinned 46=rounds 37=first_words -/
def f_least : FT := fun n ds => match n, ds with | 43, ds => m_thinned ds | 46, ds => m_rounds ds | 37, ds => m_first_words ds | _, _ => .no
@[simp] theorem f_least_43 (ds : List RA.D) : f_least 43 ds = m_thinned ds := (rfl)
@[simp] theorem f_least_46 (ds : List RA.D) : f_least 46 ds = m_rounds ds := (rfl)
@[simp] theorem f_least_37 (ds : List RA.D) : f_least 37 ds = m_first_words ds := (rfl)
/- 48 _law_is_machine(_law_found, _law_letters_here); slots: 0=_law_found 1=_law_letters_here 2=_law_row 3=_law_goal 4=_law_mark; calls:  -/
/- 49 _law_alike(_law_machine_here, _law_left, _law_second, _law_right); slots: 0=_law_machine_here 1=_law_left 2=_law_second 3=_law_right 4=_law_seen 5=_law_row 6=_law_at 7=_law_k 8=_law_pair; calls:  -/
/- 52 first_parted(machine, one, second, two); slots: 0=machine 1=one 2=second 3=two 4=letters 5=seen 6=row 7=at 8=k 9=left 10=right 11=word 12=pair; calls:  -/
def i_first_parted : IS := (.seq (.set 4 (.ix (.v 0) (.k (.int 0)))) (.seq (.own 5 (.dct (.cons (.tup (.cons (.v 1) (.cons (.v 3) .nil))) .nil) (.cons (.k (.bl true)) .nil))) (.seq (.own 6 (.lst (.cons (.tup (.cons (.v 1) (.cons (.v 3) (.cons (.k (.str [])) .nil)))) .nil))) (.seq (.set 7 (.k (.int 0))) (.seq (.whl (.cmp .lt (.v 7) (.bi .len (.cons (.pk 6) .nil))) (.seq (.unp [9, 10, 11] (.ix (.pk 6) (.v 7))) (.seq (.if_ (.cmp .ne (.ix (.ix (.v 0) (.k (.int 2))) (.v 9)) (.ix (.ix (.v 2) (.k (.int 2))) (.v 10))) (.seq (.ret (.v 11)) .nil) .nil) (.seq (.for_ (.one 8) (.rng1 (.bi .len (.cons (.v 4) .nil))) (.seq (.set 12 (.tup (.cons (.ix (.ix (.ix (.v 0) (.k (.int 1))) (.v 9)) (.v 8)) (.cons (.ix (.ix (.ix (.v 2) (.k (.int 1))) (.v 10)) (.v 8)) .nil)))) (.seq (.if_ (.cmp .nmem (.v 12) (.pk 5)) (.seq (.put 5 (.v 12) (.k (.bl true))) (.seq (.app 6 (.tup (.cons (.ix (.v 12) (.k (.int 0))) (.cons (.ix (.v 12) (.k (.int 1))) (.cons (.b .add (.v 11) (.ix (.v 4) (.v 8))) .nil))))) .nil)) .nil) .nil))) (.seq (.set 7 (.b .add (.v 7) (.k (.int 1)))) .nil))))) (.seq (.ret (.k .non)) .nil))))))
def f_first_parted : FT := fun _ _ => .no
def m_first_parted : List RA.D → Rs (Bool × RA.D) := mk 4 13 f_first_parted i_first_parted
/- 53 parting(machine, one, two); slots: 0=machine 1=one 2=two 3=rooms; calls: 52=first_parted -/
def f_parting : FT := fun n ds => match n, ds with | 52, ds => m_first_parted ds | _, _ => .no
@[simp] theorem f_parting_52 (ds : List RA.D) : f_parting 52 ds = m_first_parted ds := (rfl)
/-- a word's text -/
def sp (s : List Nat) (w : List Nat) : List Nat := w.map (nth s)
theorem sp_snoc {s w : List Nat} {k : Nat} : sp s (w ++ [k]) = sp s w ++ [nth s k] := by unfold sp; rw [List.map_append]; rfl
theorem sp_len {s w : List Nat} : (sp s w).length = w.length := List.length_map ..
/-- keys alone -/
def kT {α : Type} (l : List α) : List (α × RA.D) := l.map fun a => (a, .bl true)
theorem kT_fst {α : Type} {l : List α} : (kT l).map (·.1) = l := by unfold kT; rw [List.map_map]; exact List.map_id' l
theorem kT_len {α : Type} {l : List α} : (kT l).length = l.length := List.length_map ..
theorem kT_app {α : Type} {l m : List α} : kT (l ++ m) = kT l ++ kT m := List.map_append
section
variable {α : Type} [DecidableEq α] {f : α → RA.D}
theorem kT_nmem (K : KeyF f) {l : List α} {a : α} : cmpD .nmem (f a) (.dct (kv f (kT l))) = .ok (!decide (a ∈ l)) := by rw [kv_nmem K, kT_fst]
theorem kT_put (K : KeyF f) {G : Ev} {i : Nat} {l : List α} {g : Fl} {a : α} (hl : l.length ≤ 16777215) (h : a ∉ l) : putO G i (.ok (.val, .bl true)) (.ok (g, f a)) (some (some (true, .dct (kv f (kT l))))) = .nx (G.set i (some (true, .dct (kv f (kT (l ++ [a])))))) := by
  rw [kv_putO K (line_lt (by rw [kT_len]; exact hl)) (by rw [kT_fst]; exact h), if_neg (by decide), kT_app]; rfl
theorem kT_one (K : KeyF f) {a : α} {g : Fl} : dct1O (g, f a) (.val, .bl true) = .ok (.own, .dct (kv f (kT [a]))) := by
  rw [kv_one K, if_neg (by decide)]; rfl
end
theorem Mach.rws {s : List Nat} {rows : List (List Nat)} {marks : List Bool} (M : Mach s rows marks) : Rws s.length rows.length rows := ⟨rfl, fun r hr => M.row _ (it_mem hr)⟩
end RA
/-! W9: what is a machine; two gone through together. -/
namespace RA
open PySem PySem.Spec PyProof.Rows L2
local macro_rules | `(tactic| dsimp! [$xs,*]) => `(tactic| simp (disch := first | assumption | omega | (simp only [List.length_map, List.length_append, List.length_cons, List.length_nil, List.length_range, List.length_set]; omega) | decide | rfl) only [inn_lst, inn_dct, inn_ln, isLn_lst, isLn_dct, tstO_eq, x_seq, x_set, x_own, x_do, x_if, x_for, x_whl, x_ret, x_retN, x_pass, x_brk, x_cnt, x_rse, x_fgt, x_frz, x_retp, x_app, x_aug, x_unp, x_put, e_v, e_pk, e_k, e_gl, e_b, e_neg, e_cmp, e_and, e_or, e_not, e_ife, e_tup, e_lst, e_dct, e_dct1, e_lset, e_ix, e_sl, e_rv, rv_lst, e_out, e_bi, e_me, e_call, es_nil, es_cons, i_ex, i_rng1, i_rng2, i_zip, i_rev, valO_ok, pkO_ok, glO_ok, negO_ok, frzO_ok, retO_ok, augO_add, augO_sub, walkO_lst, walkO_tup, walkO_str, zipO_ok, zipI_ok, revO_ok, asB_ok, items_lst, items_tup, items_str, bindT_one, bindT_tup, setAll_nil, setAll_cons, forget_nil, forget_cons, prt_int, prt_out, isOut, keepOk_nil, keepOk_cons, recv_str, b_add, b_sub, c_lt, c_le, c_gt, c_ge, c_ltS, c_gtS, c_eqI, c_neI, c_eqS, c_neS, c_eqB, c_neB, c_isn, c_isnt, c_memS, c_nmemS, sl_lst, len_lst, len_tup, is_str, is_intI, is_boolI, is_boolB, tuple_lst, list_lst, list_tup, find_one, seqO_nx, seqO_no, seqO_rt, seqO_ex, seqO_bk, seqO_ct, seqO_seqO, seqO_ite, x_nil, sat_nx, sat_rt, sat_ex, sat_thru, sat_thru_ct, sat_nxt, sat_t1, sat_t1c, sat_t1r, sat_t1e, Rs.bind_ok, Rs.bind_ex, Rs.out_ok, Rs.out_ex, List.set_cons_succ, List.set_cons_zero, List.getElem?_cons_succ, List.getElem?_cons_zero, List.map_cons, List.map_nil, List.cons_append, List.nil_append, startG, List.reduceReplicate, List.length_cons, List.length_nil, Nat.reduceAdd, Nat.reduceSub, Nat.zero_add, Nat.add_zero, Nat.zero_le, Nat.reduceLeDiff, List.append_nil, reduceCtorEq, if_true, if_false, ite_true, ite_false, ne_eq, not_false_eq_true, not_true_eq_false, decide_true, decide_false, decide_not, Bool.not_true, Bool.not_false, Bool.and_true, Bool.true_and, Bool.and_self, Bool.false_eq_true, and_self, and_true, true_and, decide_eq_true_eq, Int.reduceEq, Int.cast_ofNat_Int, Int.reduceNe, Int.reduceLT, Int.reduceLE, Int.reduceNeg, Int.reduceAdd, Int.reduceSub, tgSlots, freeAt, List.all_cons, List.all_nil, up_nil, up_cons, tn_nx, tn_ct, tn_bk, tn_rt, tn_ex, b_fdiv, b_mod, max_two, min_two, ixl, ixt, ixl_last, ixl_zero, ixt_zero, ixs, ixs_last, ixT0, ixT1, ixT12, ixT22, ixL0, ixL1, ixM0, ixM1, ixM2, lenS, slS, rvS, catS, appL, unp2, unp3, r1, r2, r2one, e_comp2, it_nth, nat1, nat1l, natA, natM, natD, natR, natS, natS1, natE, natL, natLe, natL0, natN0, nat0, max_nats, Bool.not_eq_true', Bool.not_eq_false', List.length_map, List.length_append, List.length_range, Bool.true_or, Bool.false_or, Bool.or_true, Bool.or_false, Bool.and_false, Bool.false_and, Bool.or_self, decide_eq_false_iff_not, Nat.lt_irrefl, Bool.not_eq_eq_eq_not, not_true, not_false_iff, Nat.not_lt_zero, $xs,*])
end RA
/-! W10: words of places and of signs; words that part. -/
namespace RA
open PySem PySem.Spec PyProof.Rows L2
local macro_rules | `(tactic| dsimp! [$xs,*]) => `(tactic| simp (disch := first | assumption | omega | (simp only [List.length_map, List.length_append, List.length_cons, List.length_nil, List.length_range, List.length_set]; omega) | decide | rfl) only [inn_lst, inn_dct, inn_ln, isLn_lst, isLn_dct, tstO_eq, x_seq, x_set, x_own, x_do, x_if, x_for, x_whl, x_ret, x_retN, x_pass, x_brk, x_cnt, x_rse, x_fgt, x_frz, x_retp, x_app, x_aug, x_unp, x_put, e_v, e_pk, e_k, e_gl, e_b, e_neg, e_cmp, e_and, e_or, e_not, e_ife, e_tup, e_lst, e_dct, e_dct1, e_lset, e_ix, e_sl, e_rv, rv_lst, e_out, e_bi, e_me, e_call, es_nil, es_cons, i_ex, i_rng1, i_rng2, i_zip, i_rev, valO_ok, pkO_ok, glO_ok, negO_ok, frzO_ok, retO_ok, augO_add, augO_sub, walkO_lst, walkO_tup, walkO_str, zipO_ok, zipI_ok, revO_ok, asB_ok, items_lst, items_tup, items_str, bindT_one, bindT_tup, setAll_nil, setAll_cons, forget_nil, forget_cons, prt_int, prt_out, isOut, keepOk_nil, keepOk_cons, recv_str, b_add, b_sub, c_lt, c_le, c_gt, c_ge, c_ltS, c_gtS, c_eqI, c_neI, c_eqS, c_neS, c_eqB, c_neB, c_isn, c_isnt, c_memS, c_nmemS, sl_lst, len_lst, len_tup, is_str, is_intI, is_boolI, is_boolB, tuple_lst, list_lst, list_tup, find_one, seqO_nx, seqO_no, seqO_rt, seqO_ex, seqO_bk, seqO_ct, seqO_seqO, seqO_ite, x_nil, sat_nx, sat_rt, sat_ex, sat_thru, sat_thru_ct, sat_nxt, sat_t1, sat_t1c, sat_t1r, sat_t1e, Rs.bind_ok, Rs.bind_ex, Rs.out_ok, Rs.out_ex, List.set_cons_succ, List.set_cons_zero, List.getElem?_cons_succ, List.getElem?_cons_zero, List.map_cons, List.map_nil, List.cons_append, List.nil_append, startG, List.reduceReplicate, List.length_cons, List.length_nil, Nat.reduceAdd, Nat.reduceSub, Nat.zero_add, Nat.add_zero, Nat.zero_le, Nat.reduceLeDiff, List.append_nil, reduceCtorEq, if_true, if_false, ite_true, ite_false, ne_eq, not_false_eq_true, not_true_eq_false, decide_true, decide_false, decide_not, Bool.not_true, Bool.not_false, Bool.and_true, Bool.true_and, Bool.and_self, Bool.false_eq_true, and_self, and_true, true_and, decide_eq_true_eq, Int.reduceEq, Int.cast_ofNat_Int, Int.reduceNe, Int.reduceLT, Int.reduceLE, Int.reduceNeg, Int.reduceAdd, Int.reduceSub, tgSlots, freeAt, List.all_cons, List.all_nil, up_nil, up_cons, tn_nx, tn_ct, tn_bk, tn_rt, tn_ex, b_fdiv, b_mod, max_two, min_two, ixl, ixt, ixl_last, ixl_zero, ixt_zero, ixs, ixs_last, ixT0, ixT1, ixT12, ixT22, ixL0, ixL1, ixM0, ixM1, ixM2, lenS, slS, rvS, catS, appL, unp2, unp3, r1, r2, r2one, e_comp2, it_nth, nat1, nat1l, natA, natM, natD, natR, natS, natS1, natE, natL, natLe, natL0, natN0, nat0, max_nats, Bool.not_eq_true', Bool.not_eq_false', List.length_map, List.length_append, List.length_range, Bool.true_or, Bool.false_or, Bool.or_true, Bool.or_false, Bool.and_false, Bool.false_and, Bool.or_self, decide_eq_false_iff_not, Nat.lt_irrefl, Bool.not_eq_eq_eq_not, not_true, not_false_iff, Nat.not_lt_zero, $xs,*])
section
variable {s : List Nat}
theorem sp_ov {w : List Nat} (h : Wd s.length w) : Ov s (sp s w) := fun c hc => by
  obtain ⟨k, hk, rfl⟩ := List.mem_map.mp hc
  exact nth_mem (h k hk)
theorem find_nth (L : Ltrs s) {k : Nat} (hk : k < s.length) : findL s (nth s k) = k := find_pos L.nd (nth_get hk)
theorem lead_sp (L : Ltrs s) {rows : List (List Nat)} {r : Nat} : ∀ {w : List Nat}, Wd s.length w → lead s rows r (sp s w) = goes (go rows) r w := by
  intro w
  refine snoc_ind (P := fun w => Wd s.length w → lead s rows r (sp s w) = goes (go rows) r w) (fun _ => rfl) (fun w k ih hw => ?_) w
  rw [sp_snoc, lead_snoc, goes_snoc, ih hw.left]
  unfold way
  rw [find_nth L hw.last, Int.toNat_natCast]; rfl
end
/-- the first word of which p is not so -/
def First (m : Nat) (same : List Nat → Prop) : Option (List Nat) → Prop
  | none => ∀ w, Wd m w → same w
  | some w => Wd m w ∧ ¬ same w ∧ ∀ u, Wd m u → num m u < num m w → same u
theorem First.uniq {m : Nat} {same : List Nat → Prop} : ∀ {r r' : Option (List Nat)}, First m same r → First m same r' → r = r'
  | none, none, _, _ => rfl
  | none, some w, h, h' => absurd (h w h'.1) h'.2.1
  | some w, none, h, h' => absurd (h' w h.1) h.2.1
  | some w, some u, h, h' => by
    have : ¬ num m u < num m w := fun z => h'.2.1 (h.2.2 u h'.1 z)
    have : ¬ num m w < num m u := fun z => h.2.1 (h'.2.2 w h.1 z)
    rw [num_inj h.1 h'.1 (by omega)]
theorem First.imp {m : Nat} {p q : List Nat → Prop} {r : Option (List Nat)} (h : First m p r) (e : ∀ w, Wd m w → (p w ↔ q w)) : First m q r := by
  cases r with
  | none => exact fun w hw => (e w hw).mp (h w hw)
  | some w => exact ⟨h.1, fun z => h.2.1 ((e w h.1).mpr z), fun u hu hl => (e u hu).mp (h.2.2 u hu hl)⟩
end RA
/-! W11: the same data. -/
namespace RA
open PySem PySem.Spec PyProof.Rows L2
local macro_rules | `(tactic| dsimp! [$xs,*]) => `(tactic| simp (disch := first | assumption | omega | (simp only [List.length_map, List.length_append, List.length_cons, List.length_nil, List.length_range, List.length_set]; omega) | decide | rfl) only [inn_lst, inn_dct, inn_ln, isLn_lst, isLn_dct, tstO_eq, x_seq, x_set, x_own, x_do, x_if, x_for, x_whl, x_ret, x_retN, x_pass, x_brk, x_cnt, x_rse, x_fgt, x_frz, x_retp, x_app, x_aug, x_unp, x_put, e_v, e_pk, e_k, e_gl, e_b, e_neg, e_cmp, e_and, e_or, e_not, e_ife, e_tup, e_lst, e_dct, e_dct1, e_lset, e_ix, e_sl, e_rv, rv_lst, e_out, e_bi, e_me, e_call, es_nil, es_cons, i_ex, i_rng1, i_rng2, i_zip, i_rev, valO_ok, pkO_ok, glO_ok, negO_ok, frzO_ok, retO_ok, augO_add, augO_sub, walkO_lst, walkO_tup, walkO_str, zipO_ok, zipI_ok, revO_ok, asB_ok, items_lst, items_tup, items_str, bindT_one, bindT_tup, setAll_nil, setAll_cons, forget_nil, forget_cons, prt_int, prt_out, isOut, keepOk_nil, keepOk_cons, recv_str, b_add, b_sub, c_lt, c_le, c_gt, c_ge, c_ltS, c_gtS, c_eqI, c_neI, c_eqS, c_neS, c_eqB, c_neB, c_isn, c_isnt, c_memS, c_nmemS, sl_lst, len_lst, len_tup, is_str, is_intI, is_boolI, is_boolB, tuple_lst, list_lst, list_tup, find_one, seqO_nx, seqO_no, seqO_rt, seqO_ex, seqO_bk, seqO_ct, seqO_seqO, seqO_ite, x_nil, sat_nx, sat_rt, sat_ex, sat_thru, sat_thru_ct, sat_nxt, sat_t1, sat_t1c, sat_t1r, sat_t1e, Rs.bind_ok, Rs.bind_ex, Rs.out_ok, Rs.out_ex, List.set_cons_succ, List.set_cons_zero, List.getElem?_cons_succ, List.getElem?_cons_zero, List.map_cons, List.map_nil, List.cons_append, List.nil_append, startG, List.reduceReplicate, List.length_cons, List.length_nil, Nat.reduceAdd, Nat.reduceSub, Nat.zero_add, Nat.add_zero, Nat.zero_le, Nat.reduceLeDiff, List.append_nil, reduceCtorEq, if_true, if_false, ite_true, ite_false, ne_eq, not_false_eq_true, not_true_eq_false, decide_true, decide_false, decide_not, Bool.not_true, Bool.not_false, Bool.and_true, Bool.true_and, Bool.and_self, Bool.false_eq_true, and_self, and_true, true_and, decide_eq_true_eq, Int.reduceEq, Int.cast_ofNat_Int, Int.reduceNe, Int.reduceLT, Int.reduceLE, Int.reduceNeg, Int.reduceAdd, Int.reduceSub, tgSlots, freeAt, List.all_cons, List.all_nil, isNon_non, isNon_str, isNon_int, isNon_bl, isNon_tup, isNon_lst, isNon_opq, fin_nx, fin_rt, fin_ex, e_xt, Bool.true_eq_false, eq_self, isc_non, isc_opq, x_xs, x_try, tryO_nx, tryO_rt, tryO_ex, hdG_as, hdG_cst, List.contains_cons, List.contains_nil, Nat.reduceBEq, beq_self_eq_true, up_nil, up_cons, tn_nx, tn_ct, tn_bk, tn_rt, tn_ex, b_fdiv, b_mod, max_two, min_two, ixl, ixt, ixl_last, ixl_zero, ixt_zero, ixs, ixs_last, ixT0, ixT1, ixT12, ixT22, ixL0, ixL1, ixM0, ixM1, ixM2, lenS, slS, rvS, catS, appL, unp2, unp3, r1, r2, r2one, e_comp2, it_nth, nat1, nat1l, natA, natM, natD, natR, natS, natS1, natE, natL, natLe, natL0, natN0, nat0, max_nats, Bool.not_eq_true', Bool.not_eq_false', List.length_map, List.length_append, List.length_range, Bool.true_or, Bool.false_or, Bool.or_true, Bool.or_false, Bool.and_false, Bool.false_and, Bool.or_self, decide_eq_false_iff_not, Nat.lt_irrefl, Bool.not_eq_eq_eq_not, not_true, not_false_iff, Nat.not_lt_zero, $xs,*])
/- 69 _law_same(_law_found, _law_due); slots: 0=_law_found 1=_law_due 2=_law_k; calls: itself  -/
def i_law_same : IS := (.seq (.if_ (.or_ (.bi .isTup (.cons (.v 1) .nil)) (.bi .isLst (.cons (.v 1) .nil))) (.seq (.if_ (.or_ (.cmp .ne (.bi .isTup (.cons (.v 0) .nil)) (.bi .isTup (.cons (.v 1) .nil))) (.cmp .ne (.bi .isLst (.cons (.v 0) .nil)) (.bi .isLst (.cons (.v 1) .nil)))) (.seq (.ret (.k (.bl false))) .nil) .nil) (.seq (.if_ (.cmp .ne (.bi .len (.cons (.v 0) .nil)) (.bi .len (.cons (.v 1) .nil))) (.seq (.ret (.k (.bl false))) .nil) .nil) (.seq (.for_ (.one 2) (.rng1 (.bi .len (.cons (.v 1) .nil))) (.seq (.if_ (.not_ (.call 69 (.cons (.ix (.v 0) (.v 2)) (.cons (.ix (.v 1) (.v 2)) .nil)))) (.seq (.ret (.k (.bl false))) .nil) .nil) .nil)) (.seq (.ret (.k (.bl true))) .nil)))) .nil) (.seq (.if_ (.bi .isBool (.cons (.v 1) .nil)) (.seq (.ret (.and_ (.bi .isBool (.cons (.v 0) .nil)) (.cmp .eq (.v 0) (.v 1)))) .nil) .nil) (.seq (.if_ (.bi .isInt (.cons (.v 1) .nil)) (.seq (.ret (.and_ (.bi .isInt (.cons (.v 0) .nil)) (.and_ (.not_ (.bi .isBool (.cons (.v 0) .nil))) (.cmp .eq (.v 0) (.v 1))))) .nil) .nil) (.seq (.if_ (.bi .isStr (.cons (.v 1) .nil)) (.seq (.ret (.and_ (.bi .isStr (.cons (.v 0) .nil)) (.cmp .eq (.v 0) (.v 1)))) .nil) .nil) (.seq (.ret (.and_ (.cmp .isn (.v 1) (.k .non)) (.cmp .isn (.v 0) (.k .non)))) .nil)))))
def f_law_same (r : List RA.D → Rs (Bool × RA.D)) : FT := fun n ds => match n, ds with | 69, ds => r ds  | _, _ => .no
@[simp] theorem f_law_same_69 (r : List RA.D → Rs (Bool × RA.D)) (ds : List RA.D) : f_law_same r 69 ds = r ds := (rfl)
def r_law_same : Nat → List RA.D → Rs (Bool × RA.D)
  | 0 => fun _ => .no
  | k + 1 => mk 2 3 (f_law_same (r_law_same k)) i_law_same
def m_law_same : List RA.D → Rs (Bool × RA.D) := r_law_same 8
mutual
/-- the same data, kinds and all -/
def sameD : RA.D → RA.D → Bool
  | .tup as, .tup bs => sameL as bs
  | .lst as, .lst bs => sameL as bs
  | .bl a, .bl b => decide (a = b)
  | .int a, .int b => decide (a = b)
  | .str a, .str b => decide (a = b)
  | .non, .non => true
  | _, _ => false
def sameL : List RA.D → List RA.D → Bool
  | [], [] => true
  | a :: as, b :: bs => sameD a b && sameL as bs
  | _, _ => false
end
mutual
def depD : RA.D → Nat
  | .tup as => depL as + 1
  | .lst as => depL as + 1
  | _ => 0
def depL : List RA.D → Nat
  | [] => 0
  | a :: as => max (depD a) (depL as)
end
mutual
/-- no dict, no own kind, no list of great length -/
def plainD : RA.D → Bool
  | .tup as => plainL as && decide (as.length ≤ 1000000000)
  | .lst as => plainL as && decide (as.length ≤ 1000000000)
  | .dct _ => false
  | .opq _ _ => false
  | _ => true
def plainL : List RA.D → Bool
  | [] => true
  | a :: as => plainD a && plainL as
end
theorem sameL_len : ∀ {as bs : List RA.D}, sameL as bs = true → as.length = bs.length
  | [], [], _ => rfl
  | [], _ :: _, h => by simp [sameL] at h
  | _ :: _, [], h => by simp [sameL] at h
  | a :: as, b :: bs, h => by
    simp only [sameL, Bool.and_eq_true] at h
    rw [List.length_cons, List.length_cons, sameL_len h.2]
theorem sameL_at : ∀ {as bs : List RA.D} {i : Nat} {a b : RA.D}, sameL as bs = true → as[i]? = some a → bs[i]? = some b → sameD a b = true
  | [], _, _, _, _, _, e, _ => by simp at e
  | _ :: _, [], _, _, _, h, _, _ => by simp [sameL] at h
  | a :: as, b :: bs, 0, _, _, h, e1, e2 => by
    simp only [sameL, Bool.and_eq_true] at h
    cases e1; cases e2; exact h.1
  | a :: as, b :: bs, i + 1, _, _, h, e1, e2 => by
    simp only [sameL, Bool.and_eq_true] at h
    exact sameL_at h.2 (by simpa using e1) (by simpa using e2)
theorem sameL_of : ∀ {as bs : List RA.D}, as.length = bs.length → (∀ (i : Nat) (a b : RA.D), as[i]? = some a → bs[i]? = some b → sameD a b = true) → sameL as bs = true
  | [], [], _, _ => rfl
  | [], _ :: _, h, _ => by simp at h
  | _ :: _, [], h, _ => by simp at h
  | a :: as, b :: bs, h, k => by
    simp only [sameL, Bool.and_eq_true]
    exact ⟨k 0 a b rfl rfl, sameL_of (by simpa using h) fun i x y e1 e2 => k (i + 1) x y (by simpa using e1) (by simpa using e2)⟩
theorem plainL_at : ∀ {as : List RA.D} {i : Nat} {a : RA.D}, plainL as = true → as[i]? = some a → plainD a = true
  | [], _, _, _, e => by simp at e
  | a :: as, 0, _, h, e => by
    simp only [plainL, Bool.and_eq_true] at h
    cases e; exact h.1
  | a :: as, i + 1, _, h, e => by
    simp only [plainL, Bool.and_eq_true] at h
    exact plainL_at h.2 (by simpa using e)
theorem depL_at : ∀ {as : List RA.D} {i : Nat} {a : RA.D}, as[i]? = some a → depD a ≤ depL as
  | [], _, _, e => by simp at e
  | a :: as, 0, _, e => by cases e; exact Nat.le_max_left _ _
  | a :: as, i + 1, _, e => Nat.le_trans (depL_at (as := as) (i := i) (by simpa using e)) (Nat.le_max_right _ _)
/-- whether a loop over the parts comes to its end -/
theorem same_loop {k : Nat} {as bs : List RA.D} {G : Ev} (mkd : List RA.D → RA.D) (hmk : mkd = RA.D.tup ∨ mkd = RA.D.lst) (ih : ∀ (a b : RA.D), depD b < k → plainD a = true → plainD b = true → r_law_same k [a, b] = .ok (false, .bl (sameD a b)))
    (hd : depL bs < k) (pa : plainL as = true) (pb : plainL bs = true) (hb : bs.length ≤ 1000000000) (hl : as.length = bs.length) (t : Option (Bool × RA.D)) :
    Sat (seqO (loopF (.one 2) (exec (f_law_same (r_law_same k)) FUEL (.seq (.if_ (.not_ (.call 69 (.cons (.ix (.v 0) (.v 2)) (.cons (.ix (.v 1) (.v 2)) .nil)))) (.seq (.ret (.k (.bl false))) .nil) .nil) .nil)) (rangeD 0 (bs.length : Nat)) [some (false, mkd as), some (false, mkd bs), t]) (exec (f_law_same (r_law_same k)) FUEL (.seq (.ret (.k (.bl true))) .nil)))
      fun o => fin o = .ok (false, .bl (sameL as bs)) := by
  refine for_rng (fun G0 i G => ∃ t, G = up G0 [(2, t)] ∧ ∀ j < i, ∀ a b, as[j]? = some a → bs[j]? = some b → sameD a b = true) ⟨t, rfl, fun j h => absurd h (Nat.not_lt_zero _)⟩ ?_ ?_
  · rintro i G hi ⟨t, rfl, hs⟩
    refine ⟨_, rfl, ?_⟩
    have ga : as[i]? = some as[i] := List.getElem?_eq_getElem (by omega)
    have gb : bs[i]? = some bs[i] := List.getElem?_eq_getElem hi
    generalize as[i] = a at ga
    generalize bs[i] = b at gb
    have h1 := ih a b (Nat.lt_of_le_of_lt (depL_at gb) hd) (plainL_at pa ga) (plainL_at pb gb)
    have ea : ixD (mkd as) (.int (i : Nat)) = .ok a := by
      rcases hmk with rfl | rfl
      · exact ix_tup (geta ga)
      · exact ix_lst (geta ga)
    have eb : ixD (mkd bs) (.int (i : Nat)) = .ok b := by
      rcases hmk with rfl | rfl
      · exact ix_tup (geta gb)
      · exact ix_lst (geta gb)
    dsimp! [ea, eb, f_law_same_69, h1]
    cases q : sameD a b with
    | true =>
      dsimp! [up_nil]
      refine ⟨_, rfl, fun j hj x y e1 e2 => ?_⟩
      by_cases z : j < i
      · exact hs j z x y e1 e2
      · have : j = i := by omega
        subst this
        rw [ga] at e1
        rw [gb] at e2
        cases e1; cases e2; exact q
    | false =>
      dsimp! [up_nil]
      have : sameL as bs = false := Bool.eq_false_iff.mpr fun z => by rw [sameL_at z ga gb] at q; cases q
      rw [this]
  · rintro G ⟨t, rfl, hs⟩
    dsimp! [up_nil]
    rw [sameL_of hl fun i a b e1 e2 => hs i (by have := (List.getElem?_eq_some_iff.mp e2).1; omega) a b e1 e2]
theorem same_ok : ∀ (k : Nat) (a b : RA.D), depD b < k → plainD a = true → plainD b = true → r_law_same k [a, b] = .ok (false, .bl (sameD a b)) := by
  intro k
  induction k with
  | zero => intro a b h; exact absurd h (Nat.not_lt_zero _)
  | succ k ih =>
    intro a b hd pa pb
    refine mk_of rfl ?_
    unfold i_law_same
    have iT : ∀ x, plainD x = true → biD .isTup [x] = .ok (.val, .bl (match x with | .tup _ => true | _ => false)) := fun x h => by cases x <;> first | rfl | cases h
    have iL : ∀ x, plainD x = true → biD .isLst [x] = .ok (.val, .bl (match x with | .lst _ => true | _ => false)) := fun x h => by cases x <;> first | rfl | cases h
    have iB : ∀ x, plainD x = true → biD .isBool [x] = .ok (.val, .bl (match x with | .bl _ => true | _ => false)) := fun x h => by cases x <;> first | rfl | cases h
    have iI : ∀ x, plainD x = true → biD .isInt [x] = .ok (.val, .bl (match x with | .bl _ => true | .int _ => true | _ => false)) := fun x h => by cases x <;> first | rfl | cases h
    have iS : ∀ x, plainD x = true → biD .isStr [x] = .ok (.val, .bl (match x with | .str _ => true | _ => false)) := fun x h => by cases x <;> first | rfl | cases h
    have ta := iT a pa; have tb := iT b pb
    have la := iL a pa; have lb := iL b pb
    have ba := iB a pa; have bb := iB b pb
    have na := iI a pa; have nb := iI b pb
    have sa := iS a pa; have sb := iS b pb
    cases b with
    | dct _ => cases pb
    | opq _ _ => cases pb
    | tup bs =>
      cases a with
      | dct _ => cases pa
      | opq _ _ => cases pa
      | tup as =>
        simp only [plainD, Bool.and_eq_true, decide_eq_true_eq] at pa pb
        by_cases q : as.length = bs.length
        · dsimp! [ta, tb, la, lb, q]
          exact same_loop (G := []) _ (.inl rfl) ih (by simp only [depD] at hd; omega) pa.1 pb.1 pb.2 q _
        · dsimp! [ta, tb, la, lb, q]
          have : sameD (.tup as) (.tup bs) = false := Bool.eq_false_iff.mpr fun z => q (sameL_len z)
          rw [this]
      | _ => dsimp! [ta, tb, la, lb]; rfl
    | lst bs =>
      cases a with
      | dct _ => cases pa
      | opq _ _ => cases pa
      | lst as =>
        simp only [plainD, Bool.and_eq_true, decide_eq_true_eq] at pa pb
        by_cases q : as.length = bs.length
        · dsimp! [ta, tb, la, lb, q]
          exact same_loop (G := []) _ (.inr rfl) ih (by simp only [depD] at hd; omega) pa.1 pb.1 pb.2 q _
        · dsimp! [ta, tb, la, lb, q]
          have : sameD (.lst as) (.lst bs) = false := Bool.eq_false_iff.mpr fun z => q (sameL_len z)
          rw [this]
      | _ => dsimp! [ta, tb, la, lb]; rfl
    | bl b =>
      cases a with
      | dct _ => cases pa
      | opq _ _ => cases pa
      | _ => dsimp! [tb, lb, bb, ba]; rfl
    | int b =>
      cases a with
      | dct _ => cases pa
      | opq _ _ => cases pa
      | _ => dsimp! [tb, lb, bb, nb, ba, na]; rfl
    | str b =>
      cases a with
      | dct _ => cases pa
      | opq _ _ => cases pa
      | _ => dsimp! [tb, lb, bb, nb, sb, sa]; rfl
    | non =>
      cases a with
      | dct _ => cases pa
      | opq _ _ => cases pa
      | _ => dsimp! [tb, lb, bb, nb, sb, isNon]; rfl
end RA
/-! W12: words with a sign that is no letter; acts. -/
namespace RA
open PySem PySem.Spec PyProof.Rows L2
/- 169 act_of(machine, word); slots: 0=machine 1=word 2=room; calls: 11=check_word 24=led -/
def f_act_of : FT := fun n ds => match n, ds with | 11, ds => m_check_word ds | 24, ds => m_led ds | _, _ => .no
@[simp] theorem f_act_of_11 (ds : List RA.D) : f_act_of 11 ds = m_check_word ds := (rfl)
@[simp] theorem f_act_of_24 (ds : List RA.D) : f_act_of 24 ds = m_led ds := (rfl)
/- 62 _law_foreign(_law_cell); slots: 0=_law_cell 1=_law_some; calls:  -/
def i_law_foreign : IS := (.seq (.set 1 (.k (.str [32, 33, 34, 35, 36, 38, 39, 40, 41, 42, 43, 44, 45, 46, 47, 48, 49, 50, 51, 52, 53, 54, 55, 56, 57, 58, 59, 60, 61, 62, 63, 64, 65, 66, 67, 68, 69, 70, 71, 72, 73, 74, 75, 76, 77, 78, 79, 80, 81, 82, 83, 84, 85, 86, 87, 88, 89, 90, 91, 92, 93, 94, 95, 96, 123, 124, 125, 126]))) (.seq (.ret (.ix (.v 1) (.b .mod (.v 0) (.bi .len (.cons (.v 1) .nil))))) .nil))
def f_law_foreign : FT := fun _ _ => .no
def m_law_foreign : List RA.D → Rs (Bool × RA.D) := mk 1 2 f_law_foreign i_law_foreign
/- 61 _law_others(_law_letters_here); slots: 0=_law_letters_here 1=_law_sign; calls:  -/
def i_law_others : IS := (.seq (.ret (.me .join (.k (.str [])) (.cons (.comp (.one 1) (.ex (.k (.str [97, 98, 99, 100, 101, 102, 103, 104, 105, 106, 107, 108, 109, 110, 111, 112, 113, 114, 115, 116, 117, 118, 119, 120, 121, 122]))) (.cmp .nmem (.v 1) (.v 0)) (.v 1)) .nil))) .nil)
def f_law_others : FT := fun _ _ => .no
def m_law_others : List RA.D → Rs (Bool × RA.D) := mk 1 2 f_law_others i_law_others
/- 75 _law_no_word(_law_letters_here, _law_word_here, _law_script, _law_k); slots: 0=_law_letters_here 1=_law_word_here 2=_law_script 3=_law_k 4=_law_at 5=_law_cell 6=_law_sign 7=_law_others_here; calls: 6=law_cell_at 62=law_foreign 61=law_others -/
def f_law_no_word : FT := fun n ds => match n, ds with | 6, ds => m_law_cell_at ds | 62, ds => m_law_foreign ds | 61, ds => m_law_others ds | _, _ => .no
@[simp] theorem f_law_no_word_6 (ds : List RA.D) : f_law_no_word 6 ds = m_law_cell_at ds := (rfl)
@[simp] theorem f_law_no_word_62 (ds : List RA.D) : f_law_no_word 62 ds = m_law_foreign ds := (rfl)
@[simp] theorem f_law_no_word_61 (ds : List RA.D) : f_law_no_word 61 ds = m_law_others ds := (rfl)
/- 171 _law_act(_law_machine_here, _law_word_here); slots: 0=_law_machine_here 1=_law_word_here 2=_law_room; calls: 27=law_after -/
def i_law_act : IS := (.seq (.ret (.bi .tuple (.cons (.comp (.one 2) (.rng1 (.bi .len (.cons (.ix (.v 0) (.k (.int 1))) .nil))) (.k (.bl true)) (.call 27 (.cons (.v 0) (.cons (.v 2) (.cons (.v 1) .nil))))) .nil))) .nil)
def f_law_act : FT := fun n ds => match n, ds with | 27, ds => m_law_after ds | _, _ => .no
@[simp] theorem f_law_act_27 (ds : List RA.D) : f_law_act 27 ds = m_law_after ds := (rfl)
def m_law_act : List RA.D → Rs (Bool × RA.D) := mk 2 3 f_law_act i_law_act
local macro_rules | `(tactic| dsimp! [$xs,*]) => `(tactic| simp (disch := first | assumption | omega | (simp only [List.length_map, List.length_append, List.length_cons, List.length_nil, List.length_range, List.length_set]; omega) | decide | rfl) only [inn_lst, inn_dct, inn_ln, isLn_lst, isLn_dct, tstO_eq, x_seq, x_set, x_own, x_do, x_if, x_for, x_whl, x_ret, x_retN, x_pass, x_brk, x_cnt, x_rse, x_fgt, x_frz, x_retp, x_app, x_aug, x_unp, x_put, e_v, e_pk, e_k, e_gl, e_b, e_neg, e_cmp, e_and, e_or, e_not, e_ife, e_tup, e_lst, e_dct, e_dct1, e_lset, e_ix, e_sl, e_rv, rv_lst, e_out, e_bi, e_me, e_call, es_nil, es_cons, i_ex, i_rng1, i_rng2, i_zip, i_rev, valO_ok, pkO_ok, glO_ok, negO_ok, frzO_ok, retO_ok, augO_add, augO_sub, walkO_lst, walkO_tup, walkO_str, zipO_ok, zipI_ok, revO_ok, asB_ok, items_lst, items_tup, items_str, bindT_one, bindT_tup, setAll_nil, setAll_cons, forget_nil, forget_cons, prt_int, prt_out, isOut, keepOk_nil, keepOk_cons, recv_str, b_add, b_sub, c_lt, c_le, c_gt, c_ge, c_ltS, c_gtS, c_eqI, c_neI, c_eqS, c_neS, c_eqB, c_neB, c_isn, c_isnt, c_memS, c_nmemS, sl_lst, len_lst, len_tup, is_str, is_intI, is_boolI, is_boolB, tuple_lst, list_lst, list_tup, find_one, seqO_nx, seqO_no, seqO_rt, seqO_ex, seqO_bk, seqO_ct, seqO_seqO, seqO_ite, x_nil, sat_nx, sat_rt, sat_ex, sat_thru, sat_thru_ct, sat_nxt, sat_t1, sat_t1c, sat_t1r, sat_t1e, Rs.bind_ok, Rs.bind_ex, Rs.out_ok, Rs.out_ex, List.set_cons_succ, List.set_cons_zero, List.getElem?_cons_succ, List.getElem?_cons_zero, List.map_cons, List.map_nil, List.cons_append, List.nil_append, startG, List.reduceReplicate, List.length_cons, List.length_nil, Nat.reduceAdd, Nat.reduceSub, Nat.zero_add, Nat.add_zero, Nat.zero_le, Nat.reduceLeDiff, List.append_nil, reduceCtorEq, if_true, if_false, ite_true, ite_false, ne_eq, not_false_eq_true, not_true_eq_false, decide_true, decide_false, decide_not, Bool.not_true, Bool.not_false, Bool.and_true, Bool.true_and, Bool.and_self, Bool.false_eq_true, and_self, and_true, true_and, decide_eq_true_eq, Int.reduceEq, Int.cast_ofNat_Int, Int.reduceNe, Int.reduceLT, Int.reduceLE, Int.reduceNeg, Int.reduceAdd, Int.reduceSub, tgSlots, freeAt, List.all_cons, List.all_nil, isNon_non, isNon_str, isNon_int, isNon_bl, isNon_tup, isNon_lst, isNon_opq, fin_nx, fin_rt, fin_ex, e_xt, Bool.true_eq_false, eq_self, isc_non, isc_opq, x_xs, x_try, tryO_nx, tryO_rt, tryO_ex, hdG_as, hdG_cst, List.contains_cons, List.contains_nil, Nat.reduceBEq, beq_self_eq_true, up_nil, up_cons, tn_nx, tn_ct, tn_bk, tn_rt, tn_ex, b_fdiv, b_mod, max_two, min_two, ixl, ixt, ixl_last, ixl_zero, ixt_zero, ixs, ixs_last, ixT0, ixT1, ixT12, ixT22, ixL0, ixL1, ixM0, ixM1, ixM2, lenS, slS, rvS, catS, appL, unp2, unp3, r1, r2, r2one, e_comp2, it_nth, nat1, nat1l, natA, natM, natD, natR, natS, natS1, natE, natL, natLe, natL0, natN0, nat0, max_nats, Bool.not_eq_true', Bool.not_eq_false', List.length_map, List.length_append, List.length_range, Bool.true_or, Bool.false_or, Bool.or_true, Bool.or_false, Bool.and_false, Bool.false_and, Bool.or_self, decide_eq_false_iff_not, Nat.lt_irrefl, Bool.not_eq_eq_eq_not, not_true, not_false_iff, Nat.not_lt_zero, f_act_of_11, f_act_of_24, f_law_no_word_6, f_law_no_word_62, f_law_no_word_61, f_law_act_27, $xs,*])
/-- what a word does -/
def actL (rows : List (List Nat)) (w : List Nat) : List Nat := (List.range rows.length).map fun r => goes (go rows) r w
section
variable {s : List Nat} {rows : List (List Nat)} {marks : List Bool}
theorem act_ok (M : Mach s rows marks) (hn : rows.length ≤ 1000) {w : List Nat} (hw : Wd s.length w) : m_law_act [mD s rows marks, .str (sp s w)] = .ok (false, .tup ((actL rows w).map (fun (n : Nat) => RA.D.int n))) := by
  refine mk_of rfl ?_
  unfold i_law_act
  have L := M.ltrs
  dsimp! [rng_map]
  rw [comp_of (fun r => .int (goes (go rows) r w : Nat)) rfl (by rw [List.length_range]; omega) fun i r hr hi => ⟨_, rfl, .val, by decide, by
    have hlt : r < rows.length := List.mem_range.mp (List.mem_of_getElem? hr)
    have h2 : m_law_after [mD s rows marks, .int r, .str (sp s w)] = .ok (false, .int (goes (go rows) r w : Nat)) := by rw [law_after_ok M hlt (sp_ov hw), lead_sp L hw]
    dsimp! [h2]⟩]
  unfold actL
  dsimp! [up_nil]
  rw [List.map_map]; rfl
end
end RA
/-! W13: the next word; what is refused. -/
namespace RA
open PySem PySem.Spec PyProof.Rows L2
/- 19 next_word(letters, word); slots: 0=letters 1=word 2=at 3=raised; calls: 9=check_letters 11=check_word -/
def f_next_word : FT := fun n ds => match n, ds with | 9, ds => m_check_letters ds | 11, ds => m_check_word ds | _, _ => .no
@[simp] theorem f_next_word_9 (ds : List RA.D) : f_next_word 9 ds = m_check_letters ds := (rfl)
@[simp] theorem f_next_word_11 (ds : List RA.D) : f_next_word 11 ds = m_check_word ds := (rfl)
local macro_rules | `(tactic| dsimp! [$xs,*]) => `(tactic| simp (disch := first | assumption | omega | (simp only [List.length_map, List.length_append, List.length_cons, List.length_nil, List.length_range, List.length_set]; omega) | decide | rfl) only [inn_lst, inn_dct, inn_ln, isLn_lst, isLn_dct, tstO_eq, x_seq, x_set, x_own, x_do, x_if, x_for, x_whl, x_ret, x_retN, x_pass, x_brk, x_cnt, x_rse, x_fgt, x_frz, x_retp, x_app, x_aug, x_unp, x_put, e_v, e_pk, e_k, e_gl, e_b, e_neg, e_cmp, e_and, e_or, e_not, e_ife, e_tup, e_lst, e_dct, e_dct1, e_lset, e_ix, e_sl, e_rv, rv_lst, e_out, e_bi, e_me, e_call, es_nil, es_cons, i_ex, i_rng1, i_rng2, i_zip, i_rev, valO_ok, pkO_ok, glO_ok, negO_ok, frzO_ok, retO_ok, augO_add, augO_sub, walkO_lst, walkO_tup, walkO_str, zipO_ok, zipI_ok, revO_ok, asB_ok, items_lst, items_tup, items_str, bindT_one, bindT_tup, setAll_nil, setAll_cons, forget_nil, forget_cons, prt_int, prt_out, isOut, keepOk_nil, keepOk_cons, recv_str, b_add, b_sub, c_lt, c_le, c_gt, c_ge, c_ltS, c_gtS, c_eqI, c_neI, c_eqS, c_neS, c_eqB, c_neB, c_isn, c_isnt, c_memS, c_nmemS, sl_lst, len_lst, len_tup, is_str, is_intI, is_boolI, is_boolB, tuple_lst, list_lst, list_tup, find_one, seqO_nx, seqO_no, seqO_rt, seqO_ex, seqO_bk, seqO_ct, seqO_seqO, seqO_ite, x_nil, sat_nx, sat_rt, sat_ex, sat_thru, sat_thru_ct, sat_nxt, sat_t1, sat_t1c, sat_t1r, sat_t1e, Rs.bind_ok, Rs.bind_ex, Rs.out_ok, Rs.out_ex, List.set_cons_succ, List.set_cons_zero, List.getElem?_cons_succ, List.getElem?_cons_zero, List.map_cons, List.map_nil, List.cons_append, List.nil_append, startG, List.reduceReplicate, List.length_cons, List.length_nil, Nat.reduceAdd, Nat.reduceSub, Nat.zero_add, Nat.add_zero, Nat.zero_le, Nat.reduceLeDiff, List.append_nil, reduceCtorEq, if_true, if_false, ite_true, ite_false, ne_eq, not_false_eq_true, not_true_eq_false, decide_true, decide_false, decide_not, Bool.not_true, Bool.not_false, Bool.and_true, Bool.true_and, Bool.and_self, Bool.false_eq_true, and_self, and_true, true_and, decide_eq_true_eq, Int.reduceEq, Int.cast_ofNat_Int, Int.reduceNe, Int.reduceLT, Int.reduceLE, Int.reduceNeg, Int.reduceAdd, Int.reduceSub, tgSlots, freeAt, List.all_cons, List.all_nil, isNon_non, isNon_str, isNon_int, isNon_bl, isNon_tup, isNon_lst, isNon_opq, fin_nx, fin_rt, fin_ex, e_xt, Bool.true_eq_false, eq_self, isc_non, isc_opq, x_xs, x_try, tryO_nx, tryO_rt, tryO_ex, hdG_as, hdG_cst, List.contains_cons, List.contains_nil, Nat.reduceBEq, beq_self_eq_true, up_nil, up_cons, tn_nx, tn_ct, tn_bk, tn_rt, tn_ex, b_fdiv, b_mod, max_two, min_two, ixl, ixt, ixl_last, ixl_zero, ixt_zero, ixs, ixs_last, ixT0, ixT1, ixT12, ixT22, ixL0, ixL1, ixM0, ixM1, ixM2, lenS, slS, rvS, catS, appL, unp2, unp3, r1, r2, r2one, e_comp2, it_nth, nat1, nat1l, natA, natM, natD, natR, natS, natS1, natE, natL, natLe, natL0, natN0, nat0, max_nats, Bool.not_eq_true', Bool.not_eq_false', List.length_map, List.length_append, List.length_range, Bool.true_or, Bool.false_or, Bool.or_true, Bool.or_false, Bool.and_false, Bool.false_and, Bool.or_self, decide_eq_false_iff_not, Nat.lt_irrefl, Bool.not_eq_eq_eq_not, not_true, not_false_iff, Nat.not_lt_zero, f_next_word_9, f_next_word_11, f_earlier_9, f_earlier_11, f_number_of_9, f_number_of_11, f_word_of_9, f_word_of_0, f_room_after_11, f_room_after_24, f_takes_11, f_takes_24, $xs,*])
end RA
/-! W14: machines as data: the same, equal. -/
namespace RA
open PySem PySem.Spec PyProof.Rows L2
mutual
theorem sameD_refl : ∀ a : RA.D, plainD a = true → sameD a a = true
  | .tup as, h => by
    simp only [plainD, Bool.and_eq_true] at h
    exact sameL_refl as h.1
  | .lst as, h => by
    simp only [plainD, Bool.and_eq_true] at h
    exact sameL_refl as h.1
  | .non, _ => rfl
  | .bl b, _ => by simp [sameD]
  | .int b, _ => by simp [sameD]
  | .str b, _ => by simp [sameD]
  | .dct _, h => by simp [plainD] at h
  | .opq _ _, h => by simp [plainD] at h
theorem sameL_refl : ∀ as : List RA.D, plainL as = true → sameL as as = true
  | [], _ => rfl
  | a :: as, h => by
    simp only [plainL, Bool.and_eq_true] at h
    simp only [sameL, Bool.and_eq_true]
    exact ⟨sameD_refl a h.1, sameL_refl as h.2⟩
end
theorem plainL_of : ∀ {l : List RA.D}, (∀ a ∈ l, plainD a = true) → plainL l = true
  | [], _ => rfl
  | a :: l, h => by
    simp only [plainL, Bool.and_eq_true]
    exact ⟨h a List.mem_cons_self, plainL_of fun b hb => h b (List.mem_cons_of_mem _ hb)⟩
theorem depL_of {d : Nat} : ∀ {l : List RA.D}, (∀ a ∈ l, depD a ≤ d) → depL l ≤ d
  | [], _ => Nat.zero_le _
  | a :: l, h => Nat.max_le.mpr ⟨h a List.mem_cons_self, depL_of fun b hb => h b (List.mem_cons_of_mem _ hb)⟩
/-! ### == -/
section
variable {α : Type} [DecidableEq α] {f : α → RA.D}
theorem eqv_map (h : ∀ a b, PyData.eqv (toP (f a)) (toP (f b)) = decide (a = b)) : ∀ {l l' : List α}, PyData.eqvAll (toPs (l.map f)) (toPs (l'.map f)) = decide (l = l')
  | [], [] => by simp [toPs, PyData.eqvAll]
  | [], _ :: _ => by simp [toPs, PyData.eqvAll]
  | _ :: _, [] => by simp [toPs, PyData.eqvAll]
  | a :: l, b :: l' => by
    rw [List.map_cons, List.map_cons]
    unfold toPs PyData.eqvAll
    rw [h a b, eqv_map h]
    rw [Bool.eq_iff_iff]; simp
theorem lay_map (h : ∀ a, PyData.canLay0 (toP (f a)) = true) : ∀ {l : List α}, PyData.canLayAll0 (toPs (l.map f)) = true
  | [] => by simp [toPs, PyData.canLayAll0]
  | a :: l => by
    rw [List.map_cons]
    unfold toPs PyData.canLayAll0
    rw [h a, lay_map h]; rfl
theorem dep_map {d : Nat} (h : ∀ a, PyData.depth (toP (f a)) ≤ d) : ∀ {l : List α}, PyData.depthAll (toPs (l.map f)) ≤ d
  | [] => by simp [toPs, PyData.depthAll]
  | a :: l => by
    rw [List.map_cons]
    unfold toPs PyData.depthAll
    exact Nat.max_le.mpr ⟨h a, dep_map h⟩
end
theorem eqv_NI (a b : Nat) : PyData.eqv (toP ((fun (n : Nat) => RA.D.int n) a)) (toP ((fun (n : Nat) => RA.D.int n) b)) = decide (a = b) := by
  simp only [toP, PyData.eqv]
  rw [Bool.eq_iff_iff, beq_iff_eq, decide_eq_true_eq]
  exact Int.ofNat_inj
theorem eqv_ROW (a b : List Nat) : PyData.eqv (toP ((fun r : List Nat => RA.D.tup (r.map (fun (n : Nat) => RA.D.int n))) a)) (toP ((fun r : List Nat => RA.D.tup (r.map (fun (n : Nat) => RA.D.int n))) b)) = decide (a = b) := by
  simp only [toP, PyData.eqv]
  exact eqv_map eqv_NI
theorem lay_ROW (a : List Nat) : PyData.canLay0 (toP ((fun r : List Nat => RA.D.tup (r.map (fun (n : Nat) => RA.D.int n))) a)) = true ∧ PyData.depth (toP ((fun r : List Nat => RA.D.tup (r.map (fun (n : Nat) => RA.D.int n))) a)) ≤ 2 := by
  constructor
  · simp only [toP, PyData.canLay0]
    exact lay_map fun a => by simp [toP, PyData.canLay0]
  · have := dep_map (f := (fun (n : Nat) => RA.D.int n)) (d := 1) (fun a => by simp [toP, PyData.depth]) (l := a)
    simp only [toP, PyData.depth]
    omega
end RA
/-! W15: the machines of the laws of acts. -/
namespace RA
open PySem PySem.Spec PyProof.Rows L2
/- 180 _law_turns(_law_script, _law_letters_here); slots: 0=_law_script 1=_law_letters_here 2=_law_rooms 3=_law_ways 4=_law_room 5=_law_row 6=_law_k 7=_law_back; calls: 6=law_cell_at -/
def i_law_turns : IS := (.seq (.set 2 (.b .add (.k (.int 1)) (.b .mod (.call 6 (.cons (.v 0) (.cons (.k (.int 2)) .nil))) (.k (.int 8))))) (.seq (.own 3 (.lst .nil)) (.seq (.for_ (.one 4) (.rng1 (.v 2)) (.seq (.own 5 (.lst .nil)) (.seq (.for_ (.one 6) (.rng1 (.bi .len (.cons (.v 1) .nil))) (.seq (.set 7 (.b .sub (.k (.int 1)) (.b .mul (.k (.int 2)) (.b .mod (.call 6 (.cons (.v 0) (.cons (.b .add (.k (.int 5)) (.b .mul (.k (.int 2)) (.v 6))) .nil))) (.k (.int 2)))))) (.seq (.app 5 (.b .mod (.b .add (.b .mul (.v 7) (.v 4)) (.call 6 (.cons (.v 0) (.cons (.b .add (.k (.int 4)) (.b .mul (.k (.int 2)) (.v 6))) .nil)))) (.v 2))) .nil))) (.seq (.app 3 (.bi .tuple (.cons (.pk 5) .nil))) (.seq (.fgt [5]) .nil))))) (.seq (.ret (.tup (.cons (.v 1) (.cons (.bi .tuple (.cons (.pk 3) .nil)) (.cons (.bi .tuple (.cons (.comp (.one 4) (.rng1 (.v 2)) (.k (.bl true)) (.cmp .eq (.b .mod (.v 4) (.k (.int 2))) (.k (.int 0)))) .nil)) .nil))))) .nil))))
def f_law_turns : FT := fun n ds => match n, ds with | 6, ds => m_law_cell_at ds | _, _ => .no
@[simp] theorem f_law_turns_6 (ds : List RA.D) : f_law_turns 6 ds = m_law_cell_at ds := (rfl)
def m_law_turns : List RA.D → Rs (Bool × RA.D) := mk 2 8 f_law_turns i_law_turns
/- 181 _law_order(_law_cell, _law_many); slots: 0=_law_cell 1=_law_many 2=_law_found 3=_law_number 4=_law_k; calls:  -/
def i_law_order : IS := (.seq (.own 2 (.lst .nil)) (.seq (.set 3 (.b .mod (.v 0) (.k (.int 2147483647)))) (.seq (.for_ (.one 4) (.rng1 (.v 1)) (.seq (.set 3 (.b .mod (.b .add (.b .add (.b .mul (.v 3) (.v 3)) (.b .mul (.k (.int 69621)) (.v 3))) (.v 4)) (.k (.int 2147483629)))) (.seq (.ins 2 (.b .mod (.v 3) (.b .add (.v 4) (.k (.int 1)))) (.v 4)) .nil))) (.seq (.retp 2) .nil))))
def f_law_order : FT := fun _ _ => .no
def m_law_order : List RA.D → Rs (Bool × RA.D) := mk 2 5 f_law_order i_law_order
/- 182 _law_third(_law_kind, _law_room); slots: 0=_law_kind 1=_law_room; calls:  -/
def i_law_third : IS := (.seq (.if_ (.cmp .eq (.v 0) (.k (.int 0))) (.seq (.ret (.v 1)) .nil) .nil) (.seq (.if_ (.or_ (.cmp .eq (.v 0) (.k (.int 1))) (.cmp .eq (.v 0) (.k (.int 2)))) (.seq (.ret (.k (.int 7))) .nil) .nil) (.seq (.ret (.ix (.lst (.cons (.k (.int 1)) (.cons (.k (.int 0)) (.cons (.k (.int 2)) (.cons (.k (.int 3)) (.cons (.k (.int 4)) (.cons (.k (.int 5)) (.cons (.k (.int 6)) (.cons (.k (.int 7)) .nil))))))))) (.v 1))) .nil)))
def f_law_third : FT := fun _ _ => .no
def m_law_third : List RA.D → Rs (Bool × RA.D) := mk 2 2 f_law_third i_law_third
/- 183 _law_forty(_law_script, _law_letters_here); slots: 0=_law_script 1=_law_letters_here 2=_law_kind 3=_law_rooms 4=_law_order_here 5=_law_turn 6=_law_ways 7=_law_room 8=_law_goals 9=_law_row 10=_law_k; calls: 181=law_order 6=law_cell_at 182=law_third -/
def i_law_forty : IS := (.seq (.set 2 (.b .mod (.call 6 (.cons (.v 0) (.cons (.k (.int 2)) .nil))) (.k (.int 4)))) (.seq (.set 3 (.b .add (.k (.int 7)) (.bi .int (.cons (.or_ (.cmp .eq (.v 2) (.k (.int 1))) (.cmp .eq (.v 2) (.k (.int 2)))) .nil)))) (.seq (.set 4 (.call 181 (.cons (.call 6 (.cons (.v 0) (.cons (.k (.int 4)) .nil))) (.cons (.v 3) .nil)))) (.seq (.set 5 (.call 6 (.cons (.v 0) (.cons (.k (.int 5)) .nil)))) (.seq (.own 6 (.lst .nil)) (.seq (.for_ (.one 7) (.ex (.v 4)) (.seq (.set 8 (.lst (.cons (.ix (.lst (.cons (.k (.int 1)) (.cons (.k (.int 2)) (.cons (.k (.int 3)) (.cons (.k (.int 4)) (.cons (.k (.int 0)) (.cons (.k (.int 6)) (.cons (.k (.int 5)) (.cons (.k (.int 7)) .nil))))))))) (.v 7)) (.cons (.ix (.lst (.cons (.k (.int 0)) (.cons (.k (.int 2)) (.cons (.k (.int 4)) (.cons (.k (.int 1)) (.cons (.k (.int 3)) (.cons (.k (.int 5)) (.cons (.k (.int 6)) (.cons (.k (.int 7)) .nil))))))))) (.v 7)) (.cons (.call 182 (.cons (.v 2) (.cons (.v 7) .nil))) .nil))))) (.seq (.own 9 (.lst .nil)) (.seq (.for_ (.one 10) (.rng1 (.bi .len (.cons (.v 1) .nil))) (.seq (.app 9 (.lix (.v 4) (.ix (.v 8) (.b .mod (.b .add (.v 5) (.v 10)) (.bi .len (.cons (.v 1) .nil)))))) .nil)) (.seq (.app 6 (.bi .tuple (.cons (.pk 9) .nil))) (.seq (.fgt [9]) .nil)))))) (.seq (.ret (.tup (.cons (.v 1) (.cons (.bi .tuple (.cons (.pk 6) .nil)) (.cons (.bi .tuple (.cons (.comp (.one 7) (.rng1 (.v 3)) (.k (.bl true)) (.cmp .eq (.b .mod (.v 7) (.k (.int 2))) (.k (.int 0)))) .nil)) .nil))))) .nil)))))))
def f_law_forty : FT := fun n ds => match n, ds with | 181, ds => m_law_order ds | 6, ds => m_law_cell_at ds | 182, ds => m_law_third ds | _, _ => .no
@[simp] theorem f_law_forty_181 (ds : List RA.D) : f_law_forty 181 ds = m_law_order ds := (rfl)
@[simp] theorem f_law_forty_6 (ds : List RA.D) : f_law_forty 6 ds = m_law_cell_at ds := (rfl)
@[simp] theorem f_law_forty_182 (ds : List RA.D) : f_law_forty 182 ds = m_law_third ds := (rfl)
def m_law_forty : List RA.D → Rs (Bool × RA.D) := mk 2 11 f_law_forty i_law_forty
/- 184 _law_acting(_law_script, _law_letters_here); slots: 0=_law_script 1=_law_letters_here 2=_law_kind 3=_law_size; calls: 6=law_cell_at 23=law_machine 180=law_turns 183=law_forty -/
def i_law_acting : IS := (.seq (.set 2 (.b .mod (.call 6 (.cons (.v 0) (.cons (.k (.int 1)) .nil))) (.k (.int 5)))) (.seq (.set 3 (.call 6 (.cons (.v 0) (.cons (.k (.int 3)) .nil)))) (.seq (.if_ (.cmp .eq (.v 2) (.k (.int 0))) (.seq (.ret (.call 23 (.cons (.v 0) (.cons (.k (.int 4)) (.cons (.b .add (.k (.int 1)) (.b .mod (.v 3) (.k (.int 3)))) (.cons (.v 1) .nil)))))) .nil) .nil) (.seq (.if_ (.cmp .eq (.v 2) (.k (.int 1))) (.seq (.ret (.call 23 (.cons (.v 0) (.cons (.k (.int 4)) (.cons (.b .add (.k (.int 1)) (.b .mod (.v 3) (.k (.int 8)))) (.cons (.sl (.v 1) .out (.k (.int 1))) .nil)))))) .nil) .nil) (.seq (.if_ (.cmp .eq (.v 2) (.k (.int 2))) (.seq (.ret (.call 180 (.cons (.v 0) (.cons (.v 1) .nil)))) .nil) .nil) (.seq (.if_ (.cmp .eq (.v 2) (.k (.int 3))) (.seq (.ret (.call 183 (.cons (.v 0) (.cons (.v 1) .nil)))) .nil) .nil) (.seq (.ret (.call 23 (.cons (.v 0) (.cons (.k (.int 4)) (.cons (.b .add (.k (.int 4)) (.b .mod (.v 3) (.k (.int 5)))) (.cons (.v 1) .nil)))))) .nil)))))))
def f_law_acting : FT := fun n ds => match n, ds with | 6, ds => m_law_cell_at ds | 23, ds => m_law_machine ds | 180, ds => m_law_turns ds | 183, ds => m_law_forty ds | _, _ => .no
@[simp] theorem f_law_acting_6 (ds : List RA.D) : f_law_acting 6 ds = m_law_cell_at ds := (rfl)
@[simp] theorem f_law_acting_23 (ds : List RA.D) : f_law_acting 23 ds = m_law_machine ds := (rfl)
@[simp] theorem f_law_acting_180 (ds : List RA.D) : f_law_acting 180 ds = m_law_turns ds := (rfl)
@[simp] theorem f_law_acting_183 (ds : List RA.D) : f_law_acting 183 ds = m_law_forty ds := (rfl)
def m_law_acting : List RA.D → Rs (Bool × RA.D) := mk 2 4 f_law_acting i_law_acting
local macro_rules | `(tactic| dsimp! [$xs,*]) => `(tactic| simp (disch := first | assumption | omega | (simp only [List.length_map, List.length_append, List.length_cons, List.length_nil, List.length_range, List.length_set]; omega) | decide | rfl) only [inn_lst, inn_dct, inn_ln, isLn_lst, isLn_dct, tstO_eq, x_seq, x_set, x_own, x_do, x_if, x_for, x_whl, x_ret, x_retN, x_pass, x_brk, x_cnt, x_rse, x_fgt, x_frz, x_retp, x_app, x_aug, x_unp, x_put, e_v, e_pk, e_k, e_gl, e_b, e_neg, e_cmp, e_and, e_or, e_not, e_ife, e_tup, e_lst, e_dct, e_dct1, e_lset, e_ix, e_sl, e_rv, rv_lst, e_out, e_bi, e_me, e_call, es_nil, es_cons, i_ex, i_rng1, i_rng2, i_zip, i_rev, valO_ok, pkO_ok, glO_ok, negO_ok, frzO_ok, retO_ok, augO_add, augO_sub, walkO_lst, walkO_tup, walkO_str, zipO_ok, zipI_ok, revO_ok, asB_ok, items_lst, items_tup, items_str, bindT_one, bindT_tup, setAll_nil, setAll_cons, forget_nil, forget_cons, prt_int, prt_out, isOut, keepOk_nil, keepOk_cons, recv_str, b_add, b_sub, c_lt, c_le, c_gt, c_ge, c_ltS, c_gtS, c_eqI, c_neI, c_eqS, c_neS, c_eqB, c_neB, c_isn, c_isnt, c_memS, c_nmemS, sl_lst, len_lst, len_tup, is_str, is_intI, is_boolI, is_boolB, tuple_lst, list_lst, list_tup, find_one, seqO_nx, seqO_no, seqO_rt, seqO_ex, seqO_bk, seqO_ct, seqO_seqO, seqO_ite, x_nil, sat_nx, sat_rt, sat_ex, sat_thru, sat_thru_ct, sat_nxt, sat_t1, sat_t1c, sat_t1r, sat_t1e, Rs.bind_ok, Rs.bind_ex, Rs.out_ok, Rs.out_ex, List.set_cons_succ, List.set_cons_zero, List.getElem?_cons_succ, List.getElem?_cons_zero, List.map_cons, List.map_nil, List.cons_append, List.nil_append, startG, List.reduceReplicate, List.length_cons, List.length_nil, Nat.reduceAdd, Nat.reduceSub, Nat.zero_add, Nat.add_zero, Nat.zero_le, Nat.reduceLeDiff, List.append_nil, reduceCtorEq, if_true, if_false, ite_true, ite_false, ne_eq, not_false_eq_true, not_true_eq_false, decide_true, decide_false, decide_not, Bool.not_true, Bool.not_false, Bool.and_true, Bool.true_and, Bool.and_self, Bool.false_eq_true, and_self, and_true, true_and, decide_eq_true_eq, Int.reduceEq, Int.cast_ofNat_Int, Int.reduceNe, Int.reduceLT, Int.reduceLE, Int.reduceNeg, Int.reduceAdd, Int.reduceSub, tgSlots, freeAt, List.all_cons, List.all_nil, isNon_non, isNon_str, isNon_int, isNon_bl, isNon_tup, isNon_lst, isNon_opq, fin_nx, fin_rt, fin_ex, e_xt, Bool.true_eq_false, eq_self, isc_non, isc_opq, x_xs, x_try, tryO_nx, tryO_rt, tryO_ex, hdG_as, hdG_cst, List.contains_cons, List.contains_nil, Nat.reduceBEq, beq_self_eq_true, up_nil, up_cons, tn_nx, tn_ct, tn_bk, tn_rt, tn_ex, b_fdiv, b_mod, max_two, min_two, ixl, ixt, ixl_last, ixl_zero, ixt_zero, ixs, ixs_last, ixT0, ixT1, ixT12, ixT22, ixL0, ixL1, ixM0, ixM1, ixM2, lenS, slS, rvS, catS, appL, unp2, unp3, r1, r2, r2one, e_comp2, it_nth, nat1, nat1l, natA, natM, natD, natR, natS, natS1, natE, natL, natLe, natL0, natN0, nat0, max_nats, Bool.not_eq_true', Bool.not_eq_false', List.length_map, List.length_append, List.length_range, Bool.true_or, Bool.false_or, Bool.or_true, Bool.or_false, Bool.and_false, Bool.false_and, Bool.or_self, decide_eq_false_iff_not, Nat.lt_irrefl, Bool.not_eq_eq_eq_not, not_true, not_false_iff, Nat.not_lt_zero, f_law_turns_6, f_law_forty_181, f_law_forty_6, f_law_forty_182, f_law_acting_6, f_law_acting_23, f_law_acting_180, f_law_acting_183, $xs,*])
theorem rgt_nat {F : FT} {f : Fl} {n : Nat} (h : n ≤ 16777216) : xtD F .rgt [(f, .int n)] = .ok (.val, .tup ((List.range n).map (fun (n : Nat) => RA.D.int n))) := by
  show (if (0 : Int) ≤ n ∧ (n : Int) ≤ 16777216 then Rs.ok (Fl.val, RA.D.tup (rangeD 0 n)) else .no) = _
  rw [if_pos ⟨by omega, by omega⟩, rng_map]
def lixO : RA.D → Rs (Fl × RA.D) → Rs (Fl × RA.D)
  | .lst ys, r => r.bind fun b => lixD ys b.2
  | _, _ => .no
section
variable {F : FT} {G : Ev} {n : Nat}
theorem e_lix {x y : IE} : ev F (.lix x y) G = (ev F x G).bind fun a => lixO a.2 (ev F y G) := by
  simp only [ev]
  cases ev F x G with
  | ok a => obtain ⟨f, d⟩ := a; cases d <;> rfl
  | _ => rfl
theorem lixO_ok {ys : List RA.D} {f : Fl} {d : RA.D} : lixO (.lst ys) (.ok (f, d)) = lixD ys d := (rfl)
theorem lix_nat {l : List Nat} {g : Nat} (h : g ∈ l) : lixD (l.map (fun (n : Nat) => RA.D.int n)) (.int g) = .ok (.val, .int (l.idxOf g : Nat)) := by
  have h1 : (l.map (fun (n : Nat) => RA.D.int n)).all flatD = true := List.all_eq_true.mpr fun x hx => by
    obtain ⟨y, _, rfl⟩ := List.mem_map.mp hx
    rfl
  have h2 : (l.map (fun (n : Nat) => RA.D.int n)).findIdx? (fun y => eqF y (.int g)) = some (l.idxOf g) := by
    have hl := List.idxOf_lt_length_iff.mpr h
    refine List.findIdx?_eq_some_iff_getElem.mpr ⟨by rw [List.length_map]; exact hl, ?_, fun j hj => ?_⟩
    · rw [List.getElem_map, List.getElem_idxOf]
      show ((g : Int) == g) = true
      exact beq_self_eq_true _
    · rw [List.getElem_map]
      intro z
      have z : ((l[j] : Int) == g) = true := z
      have z' : l[j] = g := Int.ofNat_inj.mp (eq_of_beq z)
      have := List.not_of_lt_findIdx (p := (· == g)) (xs := l) (i := j) hj
      rw [z'] at this
      simp at this
  unfold lixD
  rw [h1, h2]; rfl
def insO (G : Ev) (i : Nat) (q r : Rs (Fl × RA.D)) : Option (Option (Bool × RA.D)) → Out
  | some (some (true, .lst xs)) => q.out G fun q => r.out G fun r => (match q.2 with
      | .int j => if r.1 ≠ .tmp ∧ 0 ≤ j ∧ j < 9223372036854775808 ∧ xs.length < sizeLine then .nx (G.set i (some (true, .lst (xs.take j.toNat ++ [r.2] ++ xs.drop j.toNat)))) else .no
      | _ => .no)
  | _ => .no
theorem x_ins {i : Nat} {k e : IE} : exec F n (.ins i k e) G = insO G i (ev F k G) (ev F e G) G[i]? := (rfl)
theorem insO_ok {i : Nat} {xs : List RA.D} {f g : Fl} {j : Nat} {d : RA.D} (hf : f ≠ .tmp) (hj : j ≤ 1000000) (hl : xs.length ≤ 1000000) : insO G i (.ok (g, .int j)) (.ok (f, d)) (some (some (true, .lst xs))) = .nx (G.set i (some (true, .lst (xs.take j ++ [d] ++ xs.drop j)))) := by
  show (if f ≠ .tmp ∧ (0 : Int) ≤ j ∧ (j : Int) < 9223372036854775808 ∧ xs.length < sizeLine then _ else _) = _
  rw [if_pos ⟨hf, by omega, by omega, line_lt (by omega)⟩, Int.toNat_natCast]
end
theorem ltrs_one {s : List Nat} (L : Ltrs s) : Ltrs (s.take 1) := by
  have h1 := L.pos
  refine ⟨by rw [List.length_take]; omega, by rw [List.length_take]; omega, L.nd.sublist (List.take_sublist _ _), fun c hc => L.az c (List.mem_of_mem_take hc)⟩
theorem order_ok (c : Int) {n : Nat} (hn : n ≤ 1000) : ∃ o : List Nat, m_law_order [.int c, .int n] = .ok (true, .lst (o.map (fun (n : Nat) => RA.D.int n))) ∧ o.length = n ∧ (∀ y ∈ o, y < n) ∧ ∀ y < n, y ∈ o := by
  refine mk_sat (R := fun z => ∃ o : List Nat, z = .ok (true, .lst (o.map (fun (n : Nat) => RA.D.int n))) ∧ o.length = n ∧ (∀ y ∈ o, y < n) ∧ ∀ y < n, y ∈ o) rfl ?_
  unfold i_law_order
  have g0 : binD .mod (.int c) (.int 2147483647) = .ok (.val, .int (c % 2147483647)) := b_mod (by omega)
  have x0 := Int.emod_nonneg c (show (2147483647 : Int) ≠ 0 by omega)
  have x1 := Int.emod_lt_of_pos c (show (0 : Int) < 2147483647 by omega)
  generalize c % 2147483647 = x at g0 x0 x1
  dsimp! [g0]
  refine for_rng (fun G0 i G => ∃ (y : Int) (o : List Nat) (t : Option (Bool × RA.D)), G = up G0 [(2, some (true, .lst (o.map (fun (n : Nat) => RA.D.int n)))), (3, some (false, .int y)), (4, t)] ∧ 0 ≤ y ∧ y < 2147483647 ∧ o.length = i ∧ (∀ z ∈ o, z < i) ∧ ∀ z < i, z ∈ o) ⟨x, [], none, rfl, x0, x1, rfl, (fun z h => by cases h), fun z h => absurd h (Nat.not_lt_zero _)⟩ ?_ ?_
  · rintro i G hi ⟨y, o, t, rfl, y0, y1, ol, o1, o2⟩
    refine ⟨_, rfl, ?_⟩
    have g1 : binD .mul (.int y) (.int y) = .ok (.val, .int (y * y)) := b_mulR y0 (by omega)
    have g2 : binD .mul (.int 69621) (.int y) = .ok (.val, .int (69621 * y)) := b_mulL (by omega) (by omega)
    have g3 : binD .mod (.int (y * y + 69621 * y + (i : Nat))) (.int 2147483629) = .ok (.val, .int ((y * y + 69621 * y + (i : Nat)) % 2147483629)) := b_mod (by omega)
    have z0 := Int.emod_nonneg (y * y + 69621 * y + (i : Nat)) (show (2147483629 : Int) ≠ 0 by omega)
    have z1 := Int.emod_lt_of_pos (y * y + 69621 * y + (i : Nat)) (show (0 : Int) < 2147483629 by omega)
    generalize (y * y + 69621 * y + (i : Nat)) % 2147483629 = z at g3 z0 z1
    obtain ⟨a, ea, ha⟩ := mod_ix (show 0 < i + 1 by omega) z
    have g4 : binD .mod (.int z) (.int ((i + 1 : Nat) : Int)) = .ok (.val, .int a) := by rw [b_mod (by omega), ea]
    dsimp! [g1, g2, g3, g4, x_ins, insO_ok]
    have pm : (o.take a ++ [i] ++ o.drop a).Perm (i :: o) := by
      have p : (o.take a ++ i :: o.drop a).Perm (i :: (o.take a ++ o.drop a)) := List.perm_middle
      rw [List.take_append_drop] at p
      rw [List.append_assoc]; exact p
    refine ⟨z, o.take a ++ [i] ++ o.drop a, some (false, .int (i : Nat)), by rw [List.map_append, List.map_append, List.map_take, List.map_drop]; rfl, z0, by omega, by rw [pm.length_eq, List.length_cons, ol], fun b hb => ?_, fun b hb => ?_⟩
    · rcases List.mem_cons.mp (pm.mem_iff.mp hb) with q | q
      · omega
      · have := o1 b q; omega
    · refine pm.mem_iff.mpr ?_
      by_cases q : b = i
      · rw [q]; exact List.mem_cons_self
      · exact List.mem_cons_of_mem _ (o2 b (by omega))
  · rintro G ⟨y, o, t, rfl, y0, y1, ol, o1, o2⟩
    dsimp! [up_nil]
    simp only [Sat, fin]
    exact ⟨o, rfl, ol, o1, o2⟩
/-- a room of the eight -/
theorem eight {l : List Nat} (hl : l.length = 8) {r : Nat} (hr : r < 8) : ixD (.lst (l.map (fun (n : Nat) => RA.D.int n))) (.int r) = .ok (.int (nth l r : Nat)) := ixl (f := (fun (n : Nat) => RA.D.int n)) (by omega)
theorem third_ok {k n : Nat} (hk : k < 4) (hn : n = 7 ∨ n = 8) (h8 : (k = 1 ∨ k = 2) → n = 8) {r : Nat} (hr : r < n) : ∃ g, m_law_third [.int k, .int r] = .ok (false, .int (g : Nat)) ∧ g < n := by
  refine mk_sat (R := fun z => ∃ g : Nat, z = .ok (false, .int (g : Nat)) ∧ g < n) rfl ?_
  unfold i_law_third
  have hr8 : r < 8 := by omega
  have e := eight (l := [1, 0, 2, 3, 4, 5, 6, 7]) rfl hr8
  have e : ixD (.lst [.int 1, .int 0, .int 2, .int 3, .int 4, .int 5, .int 6, .int 7]) (.int r) = .ok (.int (nth [1, 0, 2, 3, 4, 5, 6, 7] r : Nat)) := e
  have hb : nth [1, 0, 2, 3, 4, 5, 6, 7] r < n := by
    have : ∀ r < 8, (r < 7 → nth [1, 0, 2, 3, 4, 5, 6, 7] r < 7) ∧ nth [1, 0, 2, 3, 4, 5, 6, 7] r < 8 := by decide
    have := this r hr8
    omega
  have : k = 0 ∨ k = 1 ∨ k = 2 ∨ k = 3 := by omega
  rcases this with rfl | rfl | rfl | rfl
  · dsimp! [up_nil]
    simp only [Sat, fin]
    exact ⟨r, rfl, hr⟩
  · dsimp! [up_nil]
    simp only [Sat, fin]
    exact ⟨7, rfl, by have := h8 (.inl rfl); omega⟩
  · dsimp! [up_nil]
    simp only [Sat, fin]
    exact ⟨7, rfl, by have := h8 (.inr rfl); omega⟩
  · dsimp! [e]
    simp only [Sat, fin]
    exact ⟨_, rfl, hb⟩
theorem b_mod2 (r : Nat) : binD .mod (.int (r : Nat)) (.int 2) = .ok (.val, .int ((r : Int) % 2)) := b_mod (by omega)
theorem turns_ok (ns : List Int) {s : List Nat} (L : Ltrs s) : ∃ rows marks, m_law_turns [.lst (ns.map .int), .str s] = .ok (false, mD s rows marks) ∧ Mach s rows marks ∧ rows.length ≤ 8 := by
  refine mk_sat (R := fun z => ∃ rows marks, z = .ok (false, mD s rows marks) ∧ Mach s rows marks ∧ rows.length ≤ 8) rfl ?_
  unfold i_law_turns
  have sl := L.le
  have c2 : m_law_cell_at [.lst (ns.map .int), .int 2] = .ok (false, .int (ns.getD 2 0)) := cell_at_ok ns 2
  generalize ns.getD 2 0 = z2 at c2
  obtain ⟨k1, ek1, hk1⟩ := mod_ix (show 0 < 8 by omega) z2
  have ek1 : z2 % 8 = (k1 : Int) := ek1
  have d1 : binD .mod (.int z2) (.int 8) = .ok (.val, .int k1) := by rw [b_mod (by omega), ek1]
  dsimp! [c2, d1]
  obtain ⟨n, hn, n1, n8⟩ : ∃ n, 1 + k1 = n ∧ 1 ≤ n ∧ n ≤ 8 := ⟨_, rfl, by omega, by omega⟩
  rw [hn]
  refine for_rng (fun G0 i G => ∃ (ws : List (List Nat)) (t4 : Option RA.D) (t6 t7 : Option (Bool × RA.D)), G = up G0 [(3, some (true, .lst (ws.map (fun r : List Nat => RA.D.tup (r.map (fun (n : Nat) => RA.D.int n)))))), (4, t4.map fun d => (false, d)), (5, none), (6, t6), (7, t7)] ∧ ws.length = i ∧ ∀ r ∈ ws, r.length = s.length ∧ ∀ g ∈ r, g < n) ⟨[], none, none, none, rfl, rfl, fun r h => by cases h⟩ ?_ ?_
  · rintro i G hi ⟨ws, t4, t6, t7, rfl, wl, hw⟩
    refine ⟨_, rfl, ?_⟩
    dsimp! [up_nil]
    refine for_rng (fun G0 j G => ∃ (row : List Nat) (t6 t7 : Option (Bool × RA.D)), G = up G0 [(5, some (true, .lst (row.map (fun (n : Nat) => RA.D.int n)))), (6, t6), (7, t7)] ∧ row.length = j ∧ ∀ g ∈ row, g < n) ⟨[], t6, t7, rfl, rfl, fun r h => by cases h⟩ ?_ ?_
    · rintro j G hj ⟨row, t6, t7, rfl, rl, hr⟩
      refine ⟨_, rfl, ?_⟩
      have m2 : binD .mul (.int 2) (.int (j : Nat)) = .ok (.val, .int (2 * (j : Nat))) := b_mulL (by omega) (by omega)
      have c5 : m_law_cell_at [.lst (ns.map .int), .int (5 + 2 * (j : Nat))] = .ok (false, .int (ns.getD (5 + 2 * j) 0)) := by
        have := cell_at_ok ns (5 + 2 * j)
        rw [← this]; congr 3
      have c4 : m_law_cell_at [.lst (ns.map .int), .int (4 + 2 * (j : Nat))] = .ok (false, .int (ns.getD (4 + 2 * j) 0)) := by
        have := cell_at_ok ns (4 + 2 * j)
        rw [← this]; congr 3
      generalize ns.getD (5 + 2 * j) 0 = z5 at c5
      generalize ns.getD (4 + 2 * j) 0 = z4 at c4
      have g1 : binD .mod (.int z5) (.int 2) = .ok (.val, .int (z5 % 2)) := b_mod (by omega)
      have g2 : binD .mul (.int 2) (.int (z5 % 2)) = .ok (.val, .int (2 * (z5 % 2))) := b_mulL (by omega) (by omega)
      have g3 : binD .mul (.int (1 - 2 * (z5 % 2))) (.int (i : Nat)) = .ok (.val, .int ((1 - 2 * (z5 % 2)) * (i : Nat))) := b_mulR (by omega) (by omega)
      obtain ⟨a, ea, ha⟩ := mod_ix n1 ((1 - 2 * (z5 % 2)) * (i : Nat) + z4)
      have g4 : binD .mod (.int ((1 - 2 * (z5 % 2)) * (i : Nat) + z4)) (.int n) = .ok (.val, .int a) := by rw [b_mod (by omega), ea]
      dsimp! [m2, c5, c4, g1, g2, g3, g4]
      refine ⟨row ++ [a], _, _, by rw [List.map_append]; rfl, by rw [List.length_append, rl]; rfl, fun b hb => ?_⟩
      rcases List.mem_append.mp hb with q | q
      · exact hr b q
      · rw [List.mem_singleton.mp q]; exact ha
    · rintro G ⟨row, t6, t7, rfl, rl, hr⟩
      dsimp! [up_nil]
      refine ⟨ws ++ [row], some (.int (i : Nat)), _, _, by rw [List.map_append]; rfl, by rw [List.length_append, wl]; rfl, fun b hb => ?_⟩
      rcases List.mem_append.mp hb with q | q
      · exact hw b q
      · rw [List.mem_singleton.mp q]; exact ⟨rl, hr⟩
  · rintro G ⟨ws, t4, t6, t7, rfl, wl, hw⟩
    dsimp! [rng_map]
    rw [comp_of (xs := List.range n) (fun r => .bl (decide ((r : Int) % 2 = 0))) (by cases t4 <;> rfl) (by rw [List.length_range]; omega) fun j x hx hj => ⟨_, rfl, .val, by decide, by dsimp! [b_mod2]⟩]
    dsimp! [up_nil]
    simp only [Sat, fin]
    exact ⟨ws, (List.range n).map fun (r : Nat) => decide ((r : Int) % 2 = 0), by unfold mD; rw [List.map_map]; rfl, ⟨L, by omega, fun r hr => by rw [wl]; exact hw r hr, by rw [List.length_map, List.length_range, wl]⟩, by omega⟩
theorem forty_ok (ns : List Int) {s : List Nat} (L : Ltrs s) : ∃ rows marks, m_law_forty [.lst (ns.map .int), .str s] = .ok (false, mD s rows marks) ∧ Mach s rows marks ∧ rows.length ≤ 8 := by
  refine mk_sat (R := fun z => ∃ rows marks, z = .ok (false, mD s rows marks) ∧ Mach s rows marks ∧ rows.length ≤ 8) rfl ?_
  unfold i_law_forty
  have sl := L.le
  have s0 := L.pos
  have c2 : m_law_cell_at [.lst (ns.map .int), .int 2] = .ok (false, .int (ns.getD 2 0)) := cell_at_ok ns 2
  have c4 : m_law_cell_at [.lst (ns.map .int), .int 4] = .ok (false, .int (ns.getD 4 0)) := cell_at_ok ns 4
  have c5 : m_law_cell_at [.lst (ns.map .int), .int 5] = .ok (false, .int (ns.getD 5 0)) := cell_at_ok ns 5
  generalize ns.getD 2 0 = z2 at c2
  generalize ns.getD 4 0 = z4 at c4
  generalize ns.getD 5 0 = z5 at c5
  obtain ⟨k1, ek1, hk1⟩ := mod_ix (show 0 < 4 by omega) z2
  have ek1 : z2 % 4 = (k1 : Int) := ek1
  have d1 : binD .mod (.int z2) (.int 4) = .ok (.val, .int k1) := by rw [b_mod (by omega), ek1]
  have iT : biD .int [.bl true] = .ok (.val, .int 1) := rfl
  have iF : biD .int [.bl false] = .ok (.val, .int 0) := rfl
  obtain ⟨o7, e7, l7, a7, b7⟩ := order_ok z4 (n := 7) (by omega)
  obtain ⟨o8, e8, l8, a8, b8⟩ := order_ok z4 (n := 8) (by omega)
  have e7 : m_law_order [.int z4, .int 7] = .ok (true, .lst (o7.map (fun (n : Nat) => RA.D.int n))) := e7
  have e8 : m_law_order [.int z4, .int 8] = .ok (true, .lst (o8.map (fun (n : Nat) => RA.D.int n))) := e8
  have r7 : rng1O (.int 7) = .ok ((List.range 7).map (fun (n : Nat) => RA.D.int n)) := rfl
  have r8 : rng1O (.int 8) = .ok ((List.range 8).map (fun (n : Nat) => RA.D.int n)) := rfl
  have t7 : ∀ k : Nat, k < 4 → ¬ (k = 1 ∨ k = 2) → ∀ r : Nat, r < 7 → ∃ g, m_law_third [.int k, .int r] = .ok (false, .int (g : Nat)) ∧ g < 7 := fun k hk h r hr => third_ok hk (.inl rfl) (fun z => absurd z h) hr
  have t8 : ∀ k : Nat, k < 4 → ∀ r : Nat, r < 8 → ∃ g, m_law_third [.int k, .int r] = .ok (false, .int (g : Nat)) ∧ g < 8 := fun k hk r hr => third_ok hk (.inr rfl) (fun z => rfl) hr
  have tb : ∀ r < 8, (r < 7 → nth [1, 2, 3, 4, 0, 6, 5, 7] r < 7 ∧ nth [0, 2, 4, 1, 3, 5, 6, 7] r < 7) ∧ nth [1, 2, 3, 4, 0, 6, 5, 7] r < 8 ∧ nth [0, 2, 4, 1, 3, 5, 6, 7] r < 8 := by decide
  obtain ⟨n, o, e0, hn8, l0, a0, b0, r0, t0, b1, gK⟩ : ∃ (n : Nat) (o : List Nat), m_law_order [.int z4, .int (n : Nat)] = .ok (true, .lst (o.map (fun (n : Nat) => RA.D.int n))) ∧ (n = 7 ∨ n = 8) ∧ o.length = n ∧ (∀ y ∈ o, y < n) ∧ (∀ y < n, y ∈ o) ∧ rng1O (.int (n : Nat)) = .ok ((List.range n).map (fun (n : Nat) => RA.D.int n)) ∧ (∀ r : Nat, r < n → ∃ g, m_law_third [.int k1, .int r] = .ok (false, .int (g : Nat)) ∧ g < n) ∧ (∀ r < n, nth [1, 2, 3, 4, 0, 6, 5, 7] r < n ∧ nth [0, 2, 4, 1, 3, 5, 6, 7] r < n) ∧ biD .int [.bl (decide (k1 = 1) || decide (k1 = 2))] = .ok (.val, .int ((n : Int) - 7)) := by
    by_cases q : k1 = 1 ∨ k1 = 2
    · exact ⟨8, o8, e8, .inr rfl, l8, a8, b8, r8, t8 k1 hk1, fun r hr => (tb r hr).2, by rcases q with rfl | rfl <;> rfl⟩
    · refine ⟨7, o7, e7, .inl rfl, l7, a7, b7, r7, t7 k1 hk1 q, fun r hr => (tb r (by omega)).1 hr, ?_⟩
      have q1 : ¬ k1 = 1 := fun z => q (.inl z)
      have q2 : ¬ k1 = 2 := fun z => q (.inr z)
      rw [decide_eq_false q1, decide_eq_false q2]; rfl
  have gI : ev f_law_forty (.bi .int (.cons (.or_ (.cmp .eq (.v 2) (.k (.int 1))) (.cmp .eq (.v 2) (.k (.int 2)))) .nil)) [some (false, .lst (ns.map .int)), some (false, .str s), some (false, .int (k1 : Nat)), none, none, none, none, none, none, none, none] = .ok (.val, .int ((n : Int) - 7)) := by
    rw [← gK]
    have : k1 = 0 ∨ k1 = 1 ∨ k1 = 2 ∨ k1 = 3 := by omega
    rcases this with rfl | rfl | rfl | rfl <;> rfl
  have first : exec f_law_forty FUEL (.set 2 (.b .mod (.call 6 (.cons (.v 0) (.cons (.k (.int 2)) .nil))) (.k (.int 4)))) (startG 11 [.lst (ns.map .int), .str s]) = .nx [some (false, .lst (ns.map .int)), some (false, .str s), some (false, .int (k1 : Nat)), none, none, none, none, none, none, none, none] := by
    dsimp! [c2, d1]
  have second : exec f_law_forty FUEL (.set 3 (.b .add (.k (.int 7)) (.bi .int (.cons (.or_ (.cmp .eq (.v 2) (.k (.int 1))) (.cmp .eq (.v 2) (.k (.int 2)))) .nil)))) [some (false, .lst (ns.map .int)), some (false, .str s), some (false, .int (k1 : Nat)), none, none, none, none, none, none, none, none] = .nx [some (false, .lst (ns.map .int)), some (false, .str s), some (false, .int (k1 : Nat)), some (false, .int (n : Nat)), none, none, none, none, none, none, none] := by
    have e : (7 : Int) + ((n : Int) - 7) = (n : Int) := by omega
    show (((Rs.ok (Fl.val, RA.D.int 7)).bind fun a => (ev f_law_forty _ _).bind fun b => binD .add a.2 b.2).out _ _) = _
    rw [gI, Rs.bind_ok, Rs.bind_ok, b_add, e]; rfl
  rw [x_seq, first, seqO_nx, x_seq, second, seqO_nx]
  clear gI gK second first
  dsimp! [c4, e0, c5]
  refine for_map (fun G0 i G => ∃ (ws : List (List Nat)) (t7 : Option RA.D) (t8 t10 : Option (Bool × RA.D)), G = up G0 [(6, some (true, .lst (ws.map (fun r : List Nat => RA.D.tup (r.map (fun (n : Nat) => RA.D.int n)))))), (7, t7.map fun d => (false, d)), (8, t8), (9, none), (10, t10)] ∧ ws.length = i ∧ ∀ r ∈ ws, r.length = s.length ∧ ∀ g ∈ r, g < n) ⟨[], none, none, none, rfl, rfl, fun r h => by cases h⟩ ?_ ?_
  · rintro i r G hr hi ⟨ws, t7, t8, t10, rfl, wl, hw⟩
    refine ⟨_, rfl, ?_⟩
    have hrn := a0 r (List.mem_of_getElem? hr)
    have hr8 : r < 8 := by omega
    have x1 : ixD (.lst [.int 1, .int 2, .int 3, .int 4, .int 0, .int 6, .int 5, .int 7]) (.int r) = .ok (.int (nth [1, 2, 3, 4, 0, 6, 5, 7] r : Nat)) := eight (l := [1, 2, 3, 4, 0, 6, 5, 7]) rfl hr8
    have x2 : ixD (.lst [.int 0, .int 2, .int 4, .int 1, .int 3, .int 5, .int 6, .int 7]) (.int r) = .ok (.int (nth [0, 2, 4, 1, 3, 5, 6, 7] r : Nat)) := eight (l := [0, 2, 4, 1, 3, 5, 6, 7]) rfl hr8
    obtain ⟨b2, b3⟩ := b1 r hrn
    obtain ⟨g3, x3, b4⟩ := t0 r hrn
    generalize nth [1, 2, 3, 4, 0, 6, 5, 7] r = g1 at x1 b2
    generalize nth [0, 2, 4, 1, 3, 5, 6, 7] r = g2 at x2 b3
    dsimp! [x1, x2, x3]
    refine for_rng (fun G0 j G => ∃ (row : List Nat) (t10 : Option (Bool × RA.D)), G = up G0 [(9, some (true, .lst (row.map (fun (n : Nat) => RA.D.int n)))), (10, t10)] ∧ row.length = j ∧ ∀ g ∈ row, g < n) ⟨[], t10, rfl, rfl, fun r h => by cases h⟩ ?_ ?_
    · rintro j G hj ⟨row, t10, rfl, rl, hr⟩
      refine ⟨_, rfl, ?_⟩
      obtain ⟨a, ea, ha⟩ := mod_ix s0 (z5 + (j : Nat))
      have g4 : binD .mod (.int (z5 + (j : Nat))) (.int s.length) = .ok (.val, .int a) := by rw [b_mod (by omega), ea]
      obtain ⟨g, xg, hg⟩ : ∃ g, ixD (.lst [.int (g1 : Nat), .int (g2 : Nat), .int (g3 : Nat)]) (.int a) = .ok (.int (g : Nat)) ∧ g < n := by
        have e : ixD (.lst ([g1, g2, g3].map (fun (n : Nat) => RA.D.int n))) (.int a) = .ok (.int (nth [g1, g2, g3] a : Nat)) := ixl (f := (fun (n : Nat) => RA.D.int n)) (by show a < 3; omega)
        refine ⟨_, e, ?_⟩
        have : a = 0 ∨ a = 1 ∨ a = 2 := by omega
        rcases this with rfl | rfl | rfl
        · exact b2
        · exact b3
        · exact b4
      have lx := lix_nat (b0 g hg)
      have hx := List.idxOf_lt_length_iff.mpr (b0 g hg)
      dsimp! [g4, xg, e_lix, lixO_ok, lx]
      refine ⟨row ++ [o.idxOf g], some (false, .int (j : Nat)), by rw [List.map_append]; rfl, by rw [List.length_append, rl]; rfl, fun b hb => ?_⟩
      rcases List.mem_append.mp hb with q | q
      · exact hr b q
      · rw [List.mem_singleton.mp q]; omega
    · rintro G ⟨row, t10, rfl, rl, hr⟩
      dsimp! [up_nil]
      refine ⟨ws ++ [row], some (.int (r : Nat)), _, _, by rw [List.map_append]; rfl, by rw [List.length_append, wl]; rfl, fun b hb => ?_⟩
      rcases List.mem_append.mp hb with q | q
      · exact hw b q
      · rw [List.mem_singleton.mp q]; exact ⟨rl, hr⟩
  · rintro G ⟨ws, t7, t8, t10, rfl, wl, hw⟩
    dsimp! [r0]
    rw [comp_of (xs := List.range n) (fun r => .bl (decide ((r : Int) % 2 = 0))) (by cases t7 <;> rfl) (by rw [List.length_range]; omega) fun j x hx hj => ⟨_, rfl, .val, by decide, by dsimp! [b_mod2]⟩]
    dsimp! [up_nil]
    simp only [Sat, fin]
    exact ⟨ws, (List.range n).map fun (r : Nat) => decide ((r : Int) % 2 = 0), by unfold mD; rw [List.map_map]; rfl, ⟨L, by omega, fun r hr => by rw [wl, l0]; exact hw r hr, by rw [List.length_map, List.length_range, wl, l0]⟩, by omega⟩
theorem acting_ok (ns : List Int) {s : List Nat} (L : Ltrs s) : ∃ s' rows marks, m_law_acting [.lst (ns.map .int), .str s] = .ok (false, mD s' rows marks) ∧ Mach s' rows marks ∧ rows.length ≤ 8 := by
  refine mk_sat (R := fun z => ∃ s' rows marks, z = .ok (false, mD s' rows marks) ∧ Mach s' rows marks ∧ rows.length ≤ 8) rfl ?_
  unfold i_law_acting
  have sl := L.le
  have c1 : m_law_cell_at [.lst (ns.map .int), .int 1] = .ok (false, .int (ns.getD 1 0)) := cell_at_ok ns 1
  have c3 : m_law_cell_at [.lst (ns.map .int), .int 3] = .ok (false, .int (ns.getD 3 0)) := cell_at_ok ns 3
  generalize ns.getD 1 0 = z1 at c1
  generalize ns.getD 3 0 = z3 at c3
  have d1 : binD .mod (.int z1) (.int 5) = .ok (.val, .int (z1 % 5)) := b_mod (by omega)
  have mc : ∀ (m : Nat) (k : Nat) (s : List Nat), Ltrs s → 0 < m → 1 ≤ k → k + m ≤ 9 → ∃ j rows marks, binD .mod (.int z3) (.int (m : Nat)) = .ok (.val, .int (j : Nat)) ∧ m_law_machine [.lst (ns.map .int), .int 4, .int ((k + j : Nat) : Int), .str s] = .ok (false, mD s rows marks) ∧ (Mach s rows marks ∧ rows.length ≤ 8) := fun m k s L hm k1 hk => by
    obtain ⟨j, ej, hj⟩ := mod_ix hm z3
    obtain ⟨rows, marks, h1, h2, h3⟩ := machine_ok ns 4 (n := k + j) (by omega) (by omega) L
    exact ⟨j, rows, marks, by rw [b_mod (by omega), ej], h1, h2, by omega⟩
  by_cases q0 : z1 % 5 = 0
  · obtain ⟨j, rows, marks, h1, h2, h3⟩ := mc 3 1 s L (by omega) (by omega) (by omega)
    have h1 : binD .mod (.int z3) (.int 3) = .ok (.val, .int (j : Nat)) := h1
    dsimp! [c1, c3, d1, q0, h1, h2]
    simp only [Sat, fin]
    exact ⟨s, rows, marks, rfl, h3⟩
  by_cases q1 : z1 % 5 = 1
  · obtain ⟨j, rows, marks, h1, h2, h3⟩ := mc 8 1 (s.take 1) (ltrs_one L) (by omega) (by omega) (by omega)
    have h1 : binD .mod (.int z3) (.int 8) = .ok (.val, .int (j : Nat)) := h1
    have j1 : cutD s none (some 1) = s.take 1 := cut_to (k := 1)
    dsimp! [c1, c3, d1, q1, h1, h2, j1]
    simp only [Sat, fin]
    exact ⟨s.take 1, rows, marks, rfl, h3⟩
  by_cases q2 : z1 % 5 = 2
  · obtain ⟨rows, marks, h1, h2⟩ := turns_ok ns L
    dsimp! [c1, c3, d1, q2, h1]
    simp only [Sat, fin]
    exact ⟨s, rows, marks, rfl, h2⟩
  by_cases q3 : z1 % 5 = 3
  · obtain ⟨rows, marks, h1, h2⟩ := forty_ok ns L
    dsimp! [c1, c3, d1, q3, h1]
    simp only [Sat, fin]
    exact ⟨s, rows, marks, rfl, h2⟩
  · obtain ⟨j, rows, marks, h1, h2, h3⟩ := mc 5 4 s L (by omega) (by omega) (by omega)
    have h1 : binD .mod (.int z3) (.int 5) = .ok (.val, .int (j : Nat)) := h1
    have e4 : (4 : Int) + (j : Nat) = ((4 + j : Nat) : Int) := by omega
    rw [← e4] at h2
    dsimp! [c1, c3, d1, q0, q1, q2, q3, h1, h2]
    simp only [Sat, fin]
    exact ⟨s, rows, marks, rfl, h3⟩
end RA
/-! B4: plain: rows of states are told by their states. -/
namespace RA
theorem subLe {α : Type} [DecidableEq α] : ∀ {l s : List α}, l.Nodup → (∀ x ∈ l, x ∈ s) → l.length ≤ s.length
  | [], _, _, _ => Nat.zero_le _
  | a :: l, s, nd, h => by
    rw [List.nodup_cons] at nd
    have ih := subLe (l := l) (s := s.erase a) nd.2 fun x hx => (List.mem_erase_of_ne (fun z => nd.1 (by rw [← z]; exact hx))).mpr (h x (List.mem_cons_of_mem _ hx))
    have hm := h a List.mem_cons_self
    have := List.length_pos_of_mem hm
    rw [List.length_erase_of_mem hm] at ih
    rw [List.length_cons]
    omega
theorem srt_eq {α : Type} {r : α → α → Prop} (ir : ∀ a, ¬ r a a) (as : ∀ a b, r a b → ¬ r b a) : ∀ {f g : List α}, f.Pairwise r → g.Pairwise r → (∀ p, p ∈ f ↔ p ∈ g) → f = g
  | [], [], _, _, _ => rfl
  | [], b :: g, _, _, h => absurd ((h b).mpr List.mem_cons_self) (by simp)
  | a :: f, [], _, _, h => absurd ((h a).mp List.mem_cons_self) (by simp)
  | a :: f, b :: g, h1, h2, h => by
    rw [List.pairwise_cons] at h1 h2
    have e : a = b := by
      rcases List.mem_cons.mp ((h a).mp List.mem_cons_self) with q | q
      · exact q
      · rcases List.mem_cons.mp ((h b).mpr List.mem_cons_self) with q2 | q2
        · exact q2.symm
        · exact absurd (h2.1 a q) (as _ _ (h1.1 b q2))
    subst e
    rw [srt_eq ir as h1.2 h2.2 fun p => ⟨fun hp => ?_, fun hp => ?_⟩]
    · rcases List.mem_cons.mp ((h p).mp (List.mem_cons_of_mem _ hp)) with q | q
      · exact absurd (h1.1 p hp) (by rw [q]; exact ir _)
      · exact q
    · rcases List.mem_cons.mp ((h p).mpr (List.mem_cons_of_mem _ hp)) with q | q
      · exact absurd (h2.1 p hp) (by rw [q]; exact ir _)
      · exact q
section
variable {α : Type} {m : Nat} {st : α → Nat → α} {a0 : α} {f g : List (α × List Nat)} {i j i' j' : Nat}
theorem Bfs.sub (I : Bfs m st a0 f i j) (hi : f.length ≤ i) (J : Bfs m st a0 g i' j') (hj : g.length ≤ i') : ∀ p ∈ f, p ∈ g := fun p hp => by
  obtain ⟨h1, h2, _⟩ := I.it p hp
  obtain ⟨u, h3, h4⟩ := J.done hj p.2 h1
  obtain ⟨h5, h6, _⟩ := J.it _ h3
  rw [h2] at h3 h6
  have h7 := I.first hi (a := p.1) (u := p.2) (w := u) hp h5 h6
  have e := num_inj h1 h5 (by show num m p.2 = num m u; exact Nat.le_antisymm h7 h4)
  rw [show p = (p.1, u) from by rw [← show p.2 = u from e]]
  exact h3
theorem Bfs.uniq2 (I : Bfs m st a0 f i j) (hi : f.length ≤ i) (J : Bfs m st a0 g i' j') (hj : g.length ≤ i') : f = g :=
  srt_eq (r := fun p q => num m p.2 < num m q.2) (fun a h => Nat.lt_irrefl _ h) (fun a b h h' => Nat.lt_asymm h h') I.srt J.srt fun p => ⟨I.sub hi J hj p, J.sub hj I hi p⟩
/-- no row of unlike states is longer than the whole -/
theorem Bfs.most [DecidableEq α] (I : Bfs m st a0 f i j) (hi : f.length ≤ i) (J : Bfs m st a0 g i' j') : g.length ≤ f.length := by
  have := subLe (l := g.map (·.1)) (s := f.map (·.1)) J.nd fun a ha => by
    obtain ⟨p, hp, rfl⟩ := List.mem_map.mp ha
    obtain ⟨h1, h2, _⟩ := J.it p hp
    obtain ⟨u, h3, _⟩ := I.done hi p.2 h1
    rw [h2] at h3
    exact List.mem_map.mpr ⟨_, h3, rfl⟩
  rwa [List.length_map, List.length_map] at this
end
end RA
/-! W16: acts. -/
namespace RA
open PySem PySem.Spec PyProof.Rows L2
def m_MOST_2 : List RA.D → Rs (Bool × RA.D) := fun ds => if ds.length = 0 then .ok (false, .int 40) else .no
/- 185 _law_acts(_law_machine_here); slots: 0=_law_machine_here 1=_law_found 2=_law_seen 3=_law_at 4=_law_k 5=_law_act_here 6=_law_room; calls:  -/
def i_law_acts : IS := (.seq (.own 1 (.lst (.cons (.xt .rgt (.cons (.bi .len (.cons (.ix (.v 0) (.k (.int 1))) .nil)) .nil)) .nil))) (.seq (.own 2 (.dct (.cons (.ix (.pk 1) (.k (.int 0))) .nil) (.cons (.k (.int 0)) .nil))) (.seq (.set 3 (.k (.int 0))) (.seq (.whl (.and_ (.cmp .lt (.v 3) (.bi .len (.cons (.pk 1) .nil))) (.cmp .le (.bi .len (.cons (.pk 1) .nil)) (.k (.int 40)))) (.seq (.for_ (.one 4) (.rng1 (.bi .len (.cons (.ix (.v 0) (.k (.int 0))) .nil))) (.seq (.set 5 (.bi .tuple (.cons (.comp (.one 6) (.ex (.ix (.pk 1) (.v 3))) (.k (.bl true)) (.ix (.ix (.ix (.v 0) (.k (.int 1))) (.v 6)) (.v 4))) .nil))) (.seq (.if_ (.cmp .nmem (.v 5) (.pk 2)) (.seq (.put 2 (.v 5) (.bi .len (.cons (.pk 1) .nil))) (.seq (.app 1 (.v 5)) .nil)) .nil) .nil))) (.seq (.set 3 (.b .add (.v 3) (.k (.int 1)))) .nil))) (.seq (.frz 1) (.seq (.frz 2) (.seq (.ret (.tup (.cons (.v 1) (.cons (.v 2) .nil)))) .nil)))))))
def f_law_acts : FT := fun _ _ => .no
def m_law_acts : List RA.D → Rs (Bool × RA.D) := mk 1 7 f_law_acts i_law_acts
/- 193 acts(machine); slots: 0=machine 1=letters 2=row 3=seen 4=at 5=k 6=word 7=act 8=after 9=room 10=told; calls: 179=MOST_2 -/
def i_acts_2 : IS := (.seq (.set 1 (.ix (.v 0) (.k (.int 0)))) (.seq (.own 2 (.lst (.cons (.tup (.cons (.k (.str [])) (.cons (.xt .rgt (.cons (.bi .len (.cons (.ix (.v 0) (.k (.int 1))) .nil)) .nil)) .nil))) .nil))) (.seq (.own 3 (.dct (.cons (.ix (.ix (.pk 2) (.k (.int 0))) (.k (.int 1))) .nil) (.cons (.k (.bl true)) .nil))) (.seq (.set 4 (.k (.int 0))) (.seq (.whl (.cmp .lt (.v 4) (.bi .len (.cons (.pk 2) .nil))) (.seq (.unp [6, 7] (.ix (.pk 2) (.v 4))) (.seq (.for_ (.one 5) (.rng1 (.bi .len (.cons (.v 1) .nil))) (.seq (.set 8 (.bi .tuple (.cons (.comp (.one 9) (.ex (.v 7)) (.k (.bl true)) (.ix (.ix (.ix (.v 0) (.k (.int 1))) (.v 9)) (.v 5))) .nil))) (.seq (.if_ (.cmp .nmem (.v 8) (.pk 3)) (.seq (.put 3 (.v 8) (.k (.bl true))) (.seq (.app 2 (.tup (.cons (.b .add (.v 6) (.ix (.v 1) (.v 5))) (.cons (.v 8) .nil)))) .nil)) .nil) .nil))) (.seq (.if_ (.cmp .gt (.bi .len (.cons (.pk 2) .nil)) (.gl 179)) (.seq (.xs (.rsx 59 "TooGreat" 1) (.cons (.comp (.one 10) (.ex (.sl (.pk 2) .out (.b .add (.gl 179) (.k (.int 1))))) (.k (.bl true)) (.ix (.v 10) (.k (.int 0)))) .nil)) .nil) .nil) (.seq (.set 4 (.b .add (.v 4) (.k (.int 1)))) .nil))))) (.seq (.retp 2) .nil))))))
def f_acts_2 : FT := fun n ds => match n, ds with | 179, ds => m_MOST_2 ds | _, _ => .no
@[simp] theorem f_acts_2_179 (ds : List RA.D) : f_acts_2 179 ds = m_MOST_2 ds := (rfl)
def m_acts_2 : List RA.D → Rs (Bool × RA.D) := mk 1 11 f_acts_2 i_acts_2
local macro_rules | `(tactic| dsimp! [$xs,*]) => `(tactic| simp (disch := first | assumption | omega | (simp only [List.length_map, List.length_append, List.length_cons, List.length_nil, List.length_range, List.length_set]; omega) | decide | rfl) only [inn_lst, inn_dct, inn_ln, isLn_lst, isLn_dct, tstO_eq, x_seq, x_set, x_own, x_do, x_if, x_for, x_whl, x_ret, x_retN, x_pass, x_brk, x_cnt, x_rse, x_fgt, x_frz, x_retp, x_app, x_aug, x_unp, x_put, e_v, e_pk, e_k, e_gl, e_b, e_neg, e_cmp, e_and, e_or, e_not, e_ife, e_tup, e_lst, e_dct, e_dct1, e_lset, e_ix, e_sl, e_rv, rv_lst, e_out, e_bi, e_me, e_call, es_nil, es_cons, i_ex, i_rng1, i_rng2, i_zip, i_rev, valO_ok, pkO_ok, glO_ok, negO_ok, frzO_ok, retO_ok, augO_add, augO_sub, walkO_lst, walkO_tup, walkO_str, zipO_ok, zipI_ok, revO_ok, asB_ok, items_lst, items_tup, items_str, bindT_one, bindT_tup, setAll_nil, setAll_cons, forget_nil, forget_cons, prt_int, prt_out, isOut, keepOk_nil, keepOk_cons, recv_str, b_add, b_sub, c_lt, c_le, c_gt, c_ge, c_ltS, c_gtS, c_eqI, c_neI, c_eqS, c_neS, c_eqB, c_neB, c_isn, c_isnt, c_memS, c_nmemS, sl_lst, len_lst, len_tup, is_str, is_intI, is_boolI, is_boolB, tuple_lst, list_lst, list_tup, find_one, seqO_nx, seqO_no, seqO_rt, seqO_ex, seqO_bk, seqO_ct, seqO_seqO, seqO_ite, x_nil, sat_nx, sat_rt, sat_ex, sat_thru, sat_thru_ct, sat_nxt, sat_t1, sat_t1c, sat_t1r, sat_t1e, Rs.bind_ok, Rs.bind_ex, Rs.out_ok, Rs.out_ex, List.set_cons_succ, List.set_cons_zero, List.getElem?_cons_succ, List.getElem?_cons_zero, List.map_cons, List.map_nil, List.cons_append, List.nil_append, startG, List.reduceReplicate, List.length_cons, List.length_nil, Nat.reduceAdd, Nat.reduceSub, Nat.zero_add, Nat.add_zero, Nat.zero_le, Nat.reduceLeDiff, List.append_nil, reduceCtorEq, if_true, if_false, ite_true, ite_false, ne_eq, not_false_eq_true, not_true_eq_false, decide_true, decide_false, decide_not, Bool.not_true, Bool.not_false, Bool.and_true, Bool.true_and, Bool.and_self, Bool.false_eq_true, and_self, and_true, true_and, decide_eq_true_eq, Int.reduceEq, Int.cast_ofNat_Int, Int.reduceNe, Int.reduceLT, Int.reduceLE, Int.reduceNeg, Int.reduceAdd, Int.reduceSub, tgSlots, freeAt, List.all_cons, List.all_nil, isNon_non, isNon_str, isNon_int, isNon_bl, isNon_tup, isNon_lst, isNon_opq, fin_nx, fin_rt, fin_ex, e_xt, Bool.true_eq_false, eq_self, isc_non, isc_opq, x_xs, x_try, tryO_nx, tryO_rt, tryO_ex, hdG_as, hdG_cst, List.contains_cons, List.contains_nil, Nat.reduceBEq, beq_self_eq_true, up_nil, up_cons, tn_nx, tn_ct, tn_bk, tn_rt, tn_ex, b_fdiv, b_mod, max_two, min_two, ixl, ixt, ixl_last, ixl_zero, ixt_zero, ixs, ixs_last, ixT0, ixT1, ixT12, ixT22, ixL0, ixL1, ixM0, ixM1, ixM2, lenS, slS, rvS, catS, appL, unp2, unp3, r1, r2, r2one, e_comp2, it_nth, nat1, nat1l, natA, natM, natD, natR, natS, natS1, natE, natL, natLe, natL0, natN0, nat0, max_nats, Bool.not_eq_true', Bool.not_eq_false', List.length_map, List.length_append, List.length_range, Bool.true_or, Bool.false_or, Bool.or_true, Bool.or_false, Bool.and_false, Bool.false_and, Bool.or_self, decide_eq_false_iff_not, Nat.lt_irrefl, Bool.not_eq_eq_eq_not, not_true, not_false_iff, Nat.not_lt_zero, f_acts_2_179, $xs,*])
/-- what a letter does behind an act -/
def ast (rows : List (List Nat)) (a : List Nat) (k : Nat) : List Nat := a.map fun r => go rows r k
theorem ast_goes (rows : List (List Nat)) : ∀ w : List Nat, goes (ast rows) (List.range rows.length) w = actL rows w := by
  refine snoc_ind ?_ fun w k ih => ?_
  · unfold actL
    show List.range rows.length = _
    exact (List.map_id' _).symm
  · rw [goes_snoc, ih]
    unfold ast actL
    rw [List.map_map]
    exact List.map_congr_left fun r _ => by rw [goes_snoc]; rfl
/-- an act with its word -/
def AE (s : List Nat) (p : List Nat × List Nat) : RA.D := .tup [.str (sp s p.2), .tup (p.1.map (fun (n : Nat) => RA.D.int n))]
theorem ae0 {s : List Nat} {p : List Nat × List Nat} : ixD (AE s p) (.int 0) = .ok (.str (sp s p.2)) := (rfl)
theorem ae1 {s : List Nat} {p : List Nat × List Nat} : ixD (AE s p) (.int 1) = .ok (.tup (p.1.map (fun (n : Nat) => RA.D.int n))) := (rfl)
theorem one0 {a : RA.D} : ixD (.lst [a]) (.int 0) = .ok a := (rfl)
theorem ytD_rsx {F : FT} {G : Ev} {c : Nat} {x : Str} {f : Fl} {d : RA.D} (hf : f ≠ .tmp) : ytD F (.rsx c x 1) G [(f, d)] = .ex G c [d] := by
  show (if keepOk [(f, d)] = true then _ else _) = _
  rw [if_pos (by simp [keepOk, hf])]; rfl
theorem MOST2 : m_MOST_2 [] = .ok (false, .int 40) := (rfl)
section
variable {s : List Nat} {rows : List (List Nat)} {marks : List Bool}
theorem ast_inv (M : Mach s rows marks) {f : List (List Nat × List Nat)} {i j : Nat} (I : Bfs s.length (ast rows) (List.range rows.length) f i j) : ∀ p ∈ f, p.1.length = rows.length ∧ ∀ x ∈ p.1, x < rows.length :=
  I.inv (P := fun a => a.length = rows.length ∧ ∀ x ∈ a, x < rows.length) ⟨List.length_range, fun x hx => List.mem_range.mp hx⟩ fun a k ⟨h1, h2⟩ hk => ⟨by unfold ast; rw [List.length_map, h1], fun x hx => by
    unfold ast at hx
    obtain ⟨y, hy, rfl⟩ := List.mem_map.mp hx
    exact M.rws.clo _ (h2 y hy) k hk⟩
theorem acts_ok (M : Mach s rows marks) (hn : rows.length ≤ 1000) :
    (∃ f, m_acts_2 [mD s rows marks] = .ok (true, .lst (f.map (AE s))) ∧ Bfs s.length (ast rows) (List.range rows.length) f f.length 0 ∧ f.length ≤ 40) ∨
    (∃ f i, m_acts_2 [mD s rows marks] = .ex 59 [.lst ((f.take 41).map fun p => .str (sp s p.2))] ∧ Bfs s.length (ast rows) (List.range rows.length) f i s.length ∧ 41 ≤ f.length ∧ f.length ≤ 43) := by
  refine mk_sat (R := fun z => (∃ f : List (List Nat × List Nat), z = .ok (true, .lst (f.map (AE s))) ∧ Bfs s.length (ast rows) (List.range rows.length) f f.length 0 ∧ f.length ≤ 40) ∨ (∃ (f : List (List Nat × List Nat)) (i : Nat), z = .ex 59 [.lst ((f.take 41).map fun p => .str (sp s p.2))] ∧ Bfs s.length (ast rows) (List.range rows.length) f i s.length ∧ 41 ≤ f.length ∧ f.length ≤ 43)) rfl ?_
  unfold i_acts_2
  have L := M.ltrs
  have sl := L.le
  have R := M.rws
  have d0 := kT_one keyL (a := List.range rows.length) (g := .val)
  dsimp! [rgt_nat, one0, d0]
  refine whl_at (fun G0 v G => ∃ (f : List (List Nat × List Nat)) (i : Nat) (t5 t6 t7 t8 : Option (Bool × RA.D)), G = up G0 [(2, some (true, .lst (f.map (AE s)))), (3, some (true, .dct (kv (fun r : List Nat => RA.D.tup (r.map (fun (n : Nat) => RA.D.int n))) (kT (f.map (·.1)))))), (4, some (false, .int (i : Nat))), (5, t5), (6, t6), (7, t7), (8, t8)] ∧ Bfs s.length (ast rows) (List.range rows.length) f i 0 ∧ i ≤ f.length ∧ v + i = 40 ∧ f.length ≤ 40) 40 (by omega) ⟨[(List.range rows.length, [])], 0, none, none, none, none, rfl, Bfs.start, Nat.zero_le _, rfl, by show 1 ≤ 40; omega⟩ ?_
  rintro v G ⟨f, i, t5, t6, t7, t8, rfl, I, hi, hv, fl⟩
  by_cases hc : i < f.length
  · refine .inr ⟨by dsimp! [hc], ?_⟩
    have hp := it_get hc
    generalize it f i = p at hp
    obtain ⟨p1, p2⟩ := p
    have ei : it f i = (p1, p2) := it_of hp
    obtain ⟨w1, w2, w3⟩ := I.it _ (List.mem_of_getElem? hp)
    obtain ⟨pl, px⟩ := ast_inv M I _ (List.mem_of_getElem? hp)
    have pl : p1.length = rows.length := pl
    have px : ∀ x ∈ p1, x < rows.length := px
    have w3 : p2.length < f.length := w3
    have wl : (sp s p2).length = p2.length := sp_len
    have fe : AE s (p1, p2) = .tup [.str (sp s p2), .tup (p1.map (fun (n : Nat) => RA.D.int n))] := rfl
    dsimp! [ei, fe]
    refine for_rng (fun G0 k G => ∃ (f : List (List Nat × List Nat)) (t5 t8 : Option (Bool × RA.D)), G = up G0 [(2, some (true, .lst (f.map (AE s)))), (3, some (true, .dct (kv (fun r : List Nat => RA.D.tup (r.map (fun (n : Nat) => RA.D.int n))) (kT (f.map (·.1)))))), (5, t5), (8, t8)] ∧ Bfs s.length (ast rows) (List.range rows.length) f i k ∧ f[i]? = some (p1, p2) ∧ f.length ≤ 40 + k) ⟨f, t5, t8, rfl, I, hp, by omega⟩ ?_ ?_
    · rintro k G hk ⟨f, t5, t8, rfl, I, hp, fl⟩
      refine ⟨_, rfl, ?_⟩
      dsimp! [up_nil]
      rw [comp_of (xs := p1) (fun r => .int (go rows r k : Nat)) rfl (by omega) fun j x hx hj => ⟨_, rfl, .val, by decide, by
        have hlt := px x (List.mem_of_getElem? hx)
        have rl := (R.row x hlt).1
        dsimp! [up_nil]⟩]
      have em : (p1.map fun r => RA.D.int (go rows r k : Nat)) = (ast rows p1 k).map (fun (n : Nat) => RA.D.int n) := by unfold ast; rw [List.map_map]; rfl
      rw [em]
      have P1 : ast rows p1 k ∈ f.map (·.1) → Bfs s.length (ast rows) (List.range rows.length) f i (k + 1) := fun q => I.old hk hp q
      have P2 : ast rows p1 k ∉ f.map (·.1) → Bfs s.length (ast rows) (List.range rows.length) (f ++ [(ast rows p1 k, p2 ++ [k])]) i (k + 1) := fun q => I.new hk hp q
      have P3 : ∀ z, (f ++ [z])[i]? = some (p1, p2) := fun z => by rw [List.getElem?_append_left (List.getElem?_eq_some_iff.mp hp).1]; exact hp
      generalize hx2 : ast rows p1 k = x2 at P1 P2
      by_cases q : x2 ∈ f.map (·.1)
      · have P := P1 q
        dsimp! [kT_nmem keyL, q]
        exact ⟨f, _, _, rfl, P, hp, by omega⟩
      · have P := P2 q
        have g1 := fun G => kT_put (G := G) (i := 3) (g := .val) keyL (l := f.map (·.1)) (a := x2) (by rw [List.length_map]; omega) q
        dsimp! [kT_nmem keyL, q, g1, sp_len]
        refine ⟨f ++ [(x2, p2 ++ [k])], some (false, .int (k : Nat)), some (false, .tup (x2.map (fun (n : Nat) => RA.D.int n))), ?_, P, P3 _, by rw [List.length_append, List.length_singleton]; omega⟩
        rw [List.map_append, List.map_append]
        show _ = [_, _, some (true, RA.D.lst (f.map (AE s) ++ [AE s (x2, p2 ++ [k])])), _, _, _, _, _, _, _, _]
        unfold AE
        rw [sp_snoc]; rfl
    · rintro G ⟨f, t5, t8, rfl, I, hp, fl⟩
      by_cases q : (40 : Int) < f.length
      · have j1 : cutD (f.map (AE s)) none (some 41) = (f.take 41).map (AE s) := by
          have := cut_to (xs := f.map (AE s)) (k := 41)
          rw [List.map_take]; exact this
        dsimp! [MOST2, q, j1]
        rw [comp_of (xs := f.take 41) (fun p => .str (sp s p.2)) rfl (by rw [List.length_take]; omega) fun j x hx hj => ⟨_, rfl, .val, by decide, by dsimp! [ae0]⟩]
        dsimp! [ytD_rsx]
        exact .inr ⟨f, i, rfl, I, by omega, by omega⟩
      · dsimp! [MOST2, q]
        have hh := (List.getElem?_eq_some_iff.mp hp).1
        exact ⟨v - 1, by omega, f, i + 1, _, _, _, _, rfl, I.next, by omega, by omega, by omega⟩
  · refine .inl ⟨by dsimp! [hc], ?_⟩
    have : i = f.length := by omega
    subst this
    dsimp! [up_nil]
    simp only [Sat, fin]
    exact .inl ⟨f, rfl, I, fl⟩
/-! ### places of acts -/
def dIx : Nat → List (List Nat) → List (List Nat × RA.D)
  | _, [] => []
  | n, a :: l => (a, .int n) :: dIx (n + 1) l
theorem dIx_fst : ∀ {n : Nat} {l : List (List Nat)}, (dIx n l).map (·.1) = l
  | _, [] => rfl
  | n, a :: l => by unfold dIx; rw [List.map_cons, dIx_fst]
theorem dIx_len {n : Nat} {l : List (List Nat)} : (dIx n l).length = l.length := by
  have := congrArg List.length (dIx_fst (n := n) (l := l))
  rwa [List.length_map] at this
theorem dIx_snoc : ∀ {n : Nat} {l : List (List Nat)} {a : List Nat}, dIx n (l ++ [a]) = dIx n l ++ [(a, .int ((n + l.length : Nat) : Int))]
  | n, [], a => by simp [dIx]
  | n, b :: l, a => by
    rw [List.cons_append]
    unfold dIx
    rw [dIx_snoc, List.length_cons, List.cons_append, show n + 1 + l.length = n + (l.length + 1) from by omega]
theorem dIx_lk {a : List Nat} : ∀ {n : Nat} {l : List (List Nat)}, a ∈ l → lk (dIx n l) a = some (.int ((n + l.idxOf a : Nat) : Int))
  | n, [], h => by cases h
  | n, b :: l, h => by
    unfold dIx lk
    rw [List.find?_cons]
    by_cases q : b = a
    · subst q
      rw [decide_eq_true rfl]
      simp
    · rw [decide_eq_false q]
      have hm : a ∈ l := by
        rcases List.mem_cons.mp h with z | z
        · exact absurd z.symm q
        · exact z
      have ih := dIx_lk (a := a) (n := n + 1) hm
      unfold lk at ih
      show ((dIx (n + 1) l).find? fun p => decide (p.1 = a)).map (·.2) = _
      rw [ih, List.idxOf_cons, show (b == a) = false from beq_eq_false_iff_ne.mpr q]
      show _ = some (RA.D.int ((n + (l.idxOf a + 1) : Nat) : Int))
      congr 3
      omega
theorem law_acts_ok (M : Mach s rows marks) (hn : rows.length ≤ 1000) :
    ∃ f i, m_law_acts [mD s rows marks] = .ok (false, .tup [.lst ((f.map (·.1)).map (fun r : List Nat => RA.D.tup (r.map (fun (n : Nat) => RA.D.int n)))), .dct (kv (fun r : List Nat => RA.D.tup (r.map (fun (n : Nat) => RA.D.int n))) (dIx 0 (f.map (·.1))))]) ∧ Bfs s.length (ast rows) (List.range rows.length) f i 0 ∧ f.length ≤ 43 ∧ (40 < f.length ∨ i = f.length) := by
  refine mk_sat (R := fun z => ∃ (f : List (List Nat × List Nat)) (i : Nat), z = .ok (false, .tup [.lst ((f.map (·.1)).map (fun r : List Nat => RA.D.tup (r.map (fun (n : Nat) => RA.D.int n)))), .dct (kv (fun r : List Nat => RA.D.tup (r.map (fun (n : Nat) => RA.D.int n))) (dIx 0 (f.map (·.1))))]) ∧ Bfs s.length (ast rows) (List.range rows.length) f i 0 ∧ f.length ≤ 43 ∧ (40 < f.length ∨ i = f.length)) rfl ?_
  unfold i_law_acts
  have L := M.ltrs
  have sl := L.le
  have R := M.rws
  have d0 := kv_one keyL (a := List.range rows.length) (g := .val) (x := .val) (d := .int 0)
  have d0 : dct1O (.val, RA.D.tup ((List.range rows.length).map (fun (n : Nat) => RA.D.int n))) (.val, .int 0) = .ok (.own, .dct (kv (fun r : List Nat => RA.D.tup (r.map (fun (n : Nat) => RA.D.int n))) (dIx 0 [List.range rows.length]))) := by rw [d0, if_neg (by decide)]; rfl
  dsimp! [rgt_nat, one0, d0]
  refine whl_at (fun G0 v G => ∃ (f : List (List Nat × List Nat)) (i : Nat) (t4 t5 : Option (Bool × RA.D)) (t6 : Option RA.D), G = up G0 [(1, some (true, .lst ((f.map (·.1)).map (fun r : List Nat => RA.D.tup (r.map (fun (n : Nat) => RA.D.int n)))))), (2, some (true, .dct (kv (fun r : List Nat => RA.D.tup (r.map (fun (n : Nat) => RA.D.int n))) (dIx 0 (f.map (·.1)))))), (3, some (false, .int (i : Nat))), (4, t4), (5, t5)] ∧ Bfs s.length (ast rows) (List.range rows.length) f i 0 ∧ i ≤ f.length ∧ v + i = 43 ∧ f.length ≤ 43) 43 (by omega) ⟨[(List.range rows.length, [])], 0, none, none, none, rfl, Bfs.start, Nat.zero_le _, rfl, by show 1 ≤ 43; omega⟩ ?_
  rintro v G ⟨f, i, t4, t5, t6, rfl, I, hi, hv, fl⟩
  have fil : (f.map (·.1)).length = f.length := List.length_map ..
  by_cases hc : i < f.length
  · by_cases h40 : (f.length : Int) ≤ 40
    · refine .inr ⟨by dsimp! [hc, h40], ?_⟩
      have hp := it_get hc
      generalize it f i = p at hp
      obtain ⟨p1, p2⟩ := p
      obtain ⟨w1, w2, w3⟩ := I.it _ (List.mem_of_getElem? hp)
      obtain ⟨pl, px⟩ := ast_inv M I _ (List.mem_of_getElem? hp)
      have pl : p1.length = rows.length := pl
      have px : ∀ x ∈ p1, x < rows.length := px
      dsimp! [up_nil]
      refine for_rng (fun G0 k G => ∃ (f : List (List Nat × List Nat)) (t4 t5 : Option (Bool × RA.D)), G = up G0 [(1, some (true, .lst ((f.map (·.1)).map (fun r : List Nat => RA.D.tup (r.map (fun (n : Nat) => RA.D.int n)))))), (2, some (true, .dct (kv (fun r : List Nat => RA.D.tup (r.map (fun (n : Nat) => RA.D.int n))) (dIx 0 (f.map (·.1)))))), (4, t4), (5, t5)] ∧ Bfs s.length (ast rows) (List.range rows.length) f i k ∧ f[i]? = some (p1, p2) ∧ f.length ≤ 40 + k) ⟨f, t4, t5, rfl, I, hp, by omega⟩ ?_ ?_
      · rintro k G hk ⟨f, t4, t5, rfl, I, hp, fl⟩
        refine ⟨_, rfl, ?_⟩
        have fil : (f.map (·.1)).length = f.length := List.length_map ..
        have ih := (List.getElem?_eq_some_iff.mp hp).1
        have ei : it (f.map (·.1)) i = p1 := it_of (by rw [List.getElem?_map, hp]; rfl)
        dsimp! [ei]
        rw [comp_of (xs := p1) (fun r => .int (go rows r k : Nat)) rfl (by omega) fun j x hx hj => ⟨_, rfl, .val, by decide, by
          have hlt := px x (List.mem_of_getElem? hx)
          have rl := (R.row x hlt).1
          dsimp! [up_nil]⟩]
        have em : (p1.map fun r => RA.D.int (go rows r k : Nat)) = (ast rows p1 k).map (fun (n : Nat) => RA.D.int n) := by unfold ast; rw [List.map_map]; rfl
        rw [em]
        have P1 : ast rows p1 k ∈ f.map (·.1) → Bfs s.length (ast rows) (List.range rows.length) f i (k + 1) := fun q => I.old hk hp q
        have P2 : ast rows p1 k ∉ f.map (·.1) → Bfs s.length (ast rows) (List.range rows.length) (f ++ [(ast rows p1 k, p2 ++ [k])]) i (k + 1) := fun q => I.new hk hp q
        have P3 : ∀ z, (f ++ [z])[i]? = some (p1, p2) := fun z => by rw [List.getElem?_append_left ih]; exact hp
        generalize hx2 : ast rows p1 k = x2 at P1 P2
        by_cases q : x2 ∈ f.map (·.1)
        · have P := P1 q
          have nm : cmpD .nmem (.tup (x2.map (fun (n : Nat) => RA.D.int n))) (.dct (kv (fun r : List Nat => RA.D.tup (r.map (fun (n : Nat) => RA.D.int n))) (dIx 0 (f.map (·.1))))) = .ok false := by
            have := kv_nmem keyL (l := dIx 0 (f.map (·.1))) (a := x2)
            rw [dIx_fst] at this
            rw [this]; simp only [q, decide_true, Bool.not_true]
          dsimp! [nm]
          exact ⟨f, _, _, rfl, P, hp, by omega⟩
        · have P := P2 q
          have nm : cmpD .nmem (.tup (x2.map (fun (n : Nat) => RA.D.int n))) (.dct (kv (fun r : List Nat => RA.D.tup (r.map (fun (n : Nat) => RA.D.int n))) (dIx 0 (f.map (·.1))))) = .ok true := by
            have := kv_nmem keyL (l := dIx 0 (f.map (·.1))) (a := x2)
            rw [dIx_fst] at this
            rw [this]; simp only [q, decide_false, Bool.not_false]
          have g1 : ∀ (G : Ev) (d : RA.D), putO G 2 (.ok (.val, d)) (.ok (.val, .tup (x2.map (fun (n : Nat) => RA.D.int n)))) (some (some (true, .dct (kv (fun r : List Nat => RA.D.tup (r.map (fun (n : Nat) => RA.D.int n))) (dIx 0 (f.map (·.1))))))) = .nx (G.set 2 (some (true, .dct (kv (fun r : List Nat => RA.D.tup (r.map (fun (n : Nat) => RA.D.int n))) (dIx 0 (f.map (·.1)) ++ [(x2, d)]))))) := fun G d => by
            have := kv_putO keyL (G := G) (i := 2) (l := dIx 0 (f.map (·.1))) (x := .val) (g := .val) (a := x2) (d := d) (line_lt (by rw [dIx_len, fil]; omega)) (by rw [dIx_fst]; exact q)
            rw [if_neg (by decide)] at this
            exact this
          dsimp! [nm, q, g1]
          refine ⟨f ++ [(x2, p2 ++ [k])], some (false, .int (k : Nat)), some (false, .tup (x2.map (fun (n : Nat) => RA.D.int n))), ?_, P, P3 _, by rw [List.length_append, List.length_singleton]; omega⟩
          rw [List.map_append, List.map_append]
          show _ = [_, _, some (true, RA.D.dct (kv (fun r : List Nat => RA.D.tup (r.map (fun (n : Nat) => RA.D.int n))) (dIx 0 (f.map (·.1) ++ [x2])))), _, _, _, _]
          rw [dIx_snoc, fil, Nat.zero_add]; rfl
      · rintro G ⟨f, t4, t5, rfl, I, hp, fl⟩
        have hh := (List.getElem?_eq_some_iff.mp hp).1
        dsimp! [up_nil]
        exact ⟨v - 1, by omega, f, i + 1, _, _, none, rfl, I.next, by omega, by omega, by omega⟩
    · refine .inl ⟨by dsimp! [hc, h40], ?_⟩
      dsimp! [up_nil]
      simp only [Sat, fin]
      exact ⟨f, i, rfl, I, fl, .inl (by omega)⟩
  · refine .inl ⟨by dsimp! [hc], ?_⟩
    dsimp! [up_nil]
    simp only [Sat, fin]
    exact ⟨f, i, rfl, I, fl, .inr (by omega)⟩
end
end RA
/-! W17: the table of acts. -/
namespace RA
open PySem PySem.Spec PyProof.Rows L2
/- 194 table(machine); slots: 0=machine 1=row 2=places 3=at 4=rows 5=word 6=act 7=goals 8=other 9=after 10=room; calls: 193=acts_2 -/
def i_table_2 : IS := (.seq (.set 1 (.call 193 (.cons (.v 0) .nil))) (.seq (.own 2 (.dct .nil .nil)) (.seq (.for_ (.one 3) (.rng1 (.bi .len (.cons (.v 1) .nil))) (.seq (.put 2 (.ix (.ix (.v 1) (.v 3)) (.k (.int 1))) (.v 3)) .nil)) (.seq (.own 4 (.lst .nil)) (.seq (.for_ (.tup [5, 6]) (.ex (.v 1)) (.seq (.own 7 (.lst .nil)) (.seq (.for_ (.tup [8, 9]) (.ex (.v 1)) (.seq (.app 7 (.ix (.pk 2) (.bi .tuple (.cons (.comp (.one 10) (.ex (.v 6)) (.k (.bl true)) (.ix (.v 9) (.v 10))) .nil)))) .nil)) (.seq (.app 4 (.bi .tuple (.cons (.pk 7) .nil))) (.seq (.fgt [7]) .nil))))) (.seq (.retp 4) .nil))))))
def f_table_2 : FT := fun n ds => match n, ds with | 193, ds => m_acts_2 ds | _, _ => .no
@[simp] theorem f_table_2_193 (ds : List RA.D) : f_table_2 193 ds = m_acts_2 ds := (rfl)
def m_table_2 : List RA.D → Rs (Bool × RA.D) := mk 1 11 f_table_2 i_table_2
local macro_rules | `(tactic| dsimp! [$xs,*]) => `(tactic| simp (disch := first | assumption | omega | (simp only [List.length_map, List.length_append, List.length_cons, List.length_nil, List.length_range, List.length_set]; omega) | decide | rfl) only [inn_lst, inn_dct, inn_ln, isLn_lst, isLn_dct, tstO_eq, x_seq, x_set, x_own, x_do, x_if, x_for, x_whl, x_ret, x_retN, x_pass, x_brk, x_cnt, x_rse, x_fgt, x_frz, x_retp, x_app, x_aug, x_unp, x_put, e_v, e_pk, e_k, e_gl, e_b, e_neg, e_cmp, e_and, e_or, e_not, e_ife, e_tup, e_lst, e_dct, e_dct1, e_lset, e_ix, e_sl, e_rv, rv_lst, e_out, e_bi, e_me, e_call, es_nil, es_cons, i_ex, i_rng1, i_rng2, i_zip, i_rev, valO_ok, pkO_ok, glO_ok, negO_ok, frzO_ok, retO_ok, augO_add, augO_sub, walkO_lst, walkO_tup, walkO_str, zipO_ok, zipI_ok, revO_ok, asB_ok, items_lst, items_tup, items_str, bindT_one, bindT_tup, setAll_nil, setAll_cons, forget_nil, forget_cons, prt_int, prt_out, isOut, keepOk_nil, keepOk_cons, recv_str, b_add, b_sub, c_lt, c_le, c_gt, c_ge, c_ltS, c_gtS, c_eqI, c_neI, c_eqS, c_neS, c_eqB, c_neB, c_isn, c_isnt, c_memS, c_nmemS, sl_lst, len_lst, len_tup, is_str, is_intI, is_boolI, is_boolB, tuple_lst, list_lst, list_tup, find_one, seqO_nx, seqO_no, seqO_rt, seqO_ex, seqO_bk, seqO_ct, seqO_seqO, seqO_ite, x_nil, sat_nx, sat_rt, sat_ex, sat_thru, sat_thru_ct, sat_nxt, sat_t1, sat_t1c, sat_t1r, sat_t1e, Rs.bind_ok, Rs.bind_ex, Rs.out_ok, Rs.out_ex, List.set_cons_succ, List.set_cons_zero, List.getElem?_cons_succ, List.getElem?_cons_zero, List.map_cons, List.map_nil, List.cons_append, List.nil_append, startG, List.reduceReplicate, List.length_cons, List.length_nil, Nat.reduceAdd, Nat.reduceSub, Nat.zero_add, Nat.add_zero, Nat.zero_le, Nat.reduceLeDiff, List.append_nil, reduceCtorEq, if_true, if_false, ite_true, ite_false, ne_eq, not_false_eq_true, not_true_eq_false, decide_true, decide_false, decide_not, Bool.not_true, Bool.not_false, Bool.and_true, Bool.true_and, Bool.and_self, Bool.false_eq_true, and_self, and_true, true_and, decide_eq_true_eq, Int.reduceEq, Int.cast_ofNat_Int, Int.reduceNe, Int.reduceLT, Int.reduceLE, Int.reduceNeg, Int.reduceAdd, Int.reduceSub, tgSlots, freeAt, List.all_cons, List.all_nil, isNon_non, isNon_str, isNon_int, isNon_bl, isNon_tup, isNon_lst, isNon_opq, fin_nx, fin_rt, fin_ex, e_xt, Bool.true_eq_false, eq_self, isc_non, isc_opq, x_xs, x_try, tryO_nx, tryO_rt, tryO_ex, hdG_as, hdG_cst, List.contains_cons, List.contains_nil, Nat.reduceBEq, beq_self_eq_true, up_nil, up_cons, tn_nx, tn_ct, tn_bk, tn_rt, tn_ex, b_fdiv, b_mod, max_two, min_two, ixl, ixt, ixl_last, ixl_zero, ixt_zero, ixs, ixs_last, ixT0, ixT1, ixT12, ixT22, ixL0, ixL1, ixM0, ixM1, ixM2, lenS, slS, rvS, catS, appL, unp2, unp3, r1, r2, r2one, e_comp2, it_nth, nat1, nat1l, natA, natM, natD, natR, natS, natS1, natE, natL, natLe, natL0, natN0, nat0, max_nats, Bool.not_eq_true', Bool.not_eq_false', List.length_map, List.length_append, List.length_range, Bool.true_or, Bool.false_or, Bool.or_true, Bool.or_false, Bool.and_false, Bool.false_and, Bool.or_self, decide_eq_false_iff_not, Nat.lt_irrefl, Bool.not_eq_eq_eq_not, not_true, not_false_iff, Nat.not_lt_zero, f_table_2_193, $xs,*])
/-- the one act and then the other -/
abbrev thenA (a b : List Nat) : List Nat := a.map (nth b)
/-- acts that are closed under joining -/
structure Acts (n : Nat) (F : List (List Nat)) : Prop where
  len : ∀ a ∈ F, a.length = n
  lt : ∀ a ∈ F, ∀ x ∈ a, x < n
  cl : ∀ a ∈ F, ∀ b ∈ F, thenA a b ∈ F
/-- the table -/
def TB (F : List (List Nat)) : List RA.D := F.map fun a => RA.D.tup (F.map fun b => .int (F.idxOf (thenA a b) : Nat))
section
variable {s : List Nat} {rows : List (List Nat)} {marks : List Bool}
theorem actL_nth {n : Nat} (hn : rows.length = n) {w : List Nat} {x : Nat} (hx : x < n) : nth (actL rows w) x = goes (go rows) x w := by
  unfold actL
  refine nth_of ?_
  rw [List.getElem?_map, List.getElem?_range (by omega)]; rfl
theorem act_comp (M : Mach s rows marks) {u v : List Nat} (hu : Wd s.length u) : thenA (actL rows u) (actL rows v) = actL rows (u ++ v) := by
  show (actL rows u).map (nth (actL rows v)) = _
  conv => lhs; unfold actL
  rw [List.map_map]
  unfold actL
  refine List.map_congr_left fun r hr => ?_
  have h1 := M.rws.clo.goes (List.mem_range.mp hr) hu
  show nth (actL rows v) (goes (go rows) r u) = _
  rw [actL_nth rfl h1, goes_app]
theorem bfs_act {f : List (List Nat × List Nat)} {i j : Nat} (I : Bfs s.length (ast rows) (List.range rows.length) f i j) : ∀ p ∈ f, p.1 = actL rows p.2 ∧ Wd s.length p.2 := fun p hp => by
  obtain ⟨h1, h2, _⟩ := I.it p hp
  exact ⟨by rw [← h2, ast_goes], h1⟩
theorem bfs_has {f : List (List Nat × List Nat)} {i j : Nat} (I : Bfs s.length (ast rows) (List.range rows.length) f i j) (hi : f.length ≤ i) {w : List Nat} (hw : Wd s.length w) : actL rows w ∈ f.map (·.1) := by
  obtain ⟨u, h, _⟩ := I.done hi w hw
  rw [ast_goes] at h
  exact List.mem_map.mpr ⟨_, h, rfl⟩
theorem bfs_acts (M : Mach s rows marks) {f : List (List Nat × List Nat)} {i j : Nat} (I : Bfs s.length (ast rows) (List.range rows.length) f i j) (hi : f.length ≤ i) : Acts rows.length (f.map (·.1)) := by
  refine ⟨fun a ha => ?_, fun a ha => ?_, fun a ha b hb => ?_⟩
  · obtain ⟨p, hp, rfl⟩ := List.mem_map.mp ha
    exact (ast_inv M I p hp).1
  · obtain ⟨p, hp, rfl⟩ := List.mem_map.mp ha
    exact (ast_inv M I p hp).2
  · obtain ⟨p, hp, rfl⟩ := List.mem_map.mp ha
    obtain ⟨q, hq, rfl⟩ := List.mem_map.mp hb
    obtain ⟨p1, p2⟩ := bfs_act I p hp
    obtain ⟨q1, q2⟩ := bfs_act I q hq
    rw [p1, q1, act_comp M p2]
    exact bfs_has I hi (p2.app q2)
theorem table_ok (M : Mach s rows marks) (hn : rows.length ≤ 1000) {f : List (List Nat × List Nat)} (ea : m_acts_2 [mD s rows marks] = .ok (true, .lst (f.map (AE s)))) (I : Bfs s.length (ast rows) (List.range rows.length) f f.length 0) (fl : f.length ≤ 40) :
    m_table_2 [mD s rows marks] = .ok (true, .lst (TB (f.map (·.1)))) := by
  refine mk_of rfl ?_
  unfold i_table_2
  have A := bfs_acts M I (Nat.le_refl _)
  have fil : (f.map (·.1)).length = f.length := List.length_map ..
  dsimp! [ea]
  refine for_rng (fun G0 i G => ∃ t3 : Option (Bool × RA.D), G = up G0 [(2, some (true, .dct (kv (fun r : List Nat => RA.D.tup (r.map (fun (n : Nat) => RA.D.int n))) (dIx 0 ((f.map (·.1)).take i))))), (3, t3)]) ⟨none, rfl⟩ ?_ ?_
  · rintro i G hi ⟨t3, rfl⟩
    refine ⟨_, rfl, ?_⟩
    have hp := it_get hi
    generalize hpp : it f i = p at hp
    have nt : p.1 ∉ (f.map (·.1)).take i := fun h => by
      obtain ⟨j, hj, e⟩ := List.mem_iff_getElem.mp h
      rw [List.length_take] at hj
      rw [List.getElem_take] at e
      have e2 : (f.map (·.1))[i]'(by omega) = p.1 := by
        have := (List.getElem?_eq_some_iff.mp hp).2
        rw [List.getElem_map, this]
      exact (List.pairwise_iff_getElem.mp I.nd j i (by omega) (by omega) (by omega)) (e.trans e2.symm)
    have g1 : ∀ (G : Ev) (d : RA.D), putO G 2 (.ok (.val, d)) (.ok (.val, .tup (p.1.map (fun (n : Nat) => RA.D.int n)))) (some (some (true, .dct (kv (fun r : List Nat => RA.D.tup (r.map (fun (n : Nat) => RA.D.int n))) (dIx 0 ((f.map (·.1)).take i)))))) = .nx (G.set 2 (some (true, .dct (kv (fun r : List Nat => RA.D.tup (r.map (fun (n : Nat) => RA.D.int n))) (dIx 0 ((f.map (·.1)).take i) ++ [(p.1, d)]))))) := fun G d => by
      have := kv_putO keyL (G := G) (i := 2) (l := dIx 0 ((f.map (·.1)).take i)) (x := .val) (g := .val) (a := p.1) (d := d) (line_lt (by rw [dIx_len, List.length_take]; omega)) (by rw [dIx_fst]; exact nt)
      rw [if_neg (by decide)] at this
      exact this
    dsimp! [hpp, ae1, g1]
    refine ⟨some (false, .int (i : Nat)), ?_⟩
    have e : (f.map (·.1)).take (i + 1) = (f.map (·.1)).take i ++ [p.1] := take_snoc (by rw [List.getElem?_map, hp]; rfl)
    rw [e, dIx_snoc, List.length_take, fil, Nat.min_eq_left (by omega), Nat.zero_add]
  · rintro G ⟨t3, rfl⟩
    rw [← fil, List.take_length]
    generalize hF : f.map (·.1) = F at A fil ⊢
    dsimp! [up_nil]
    refine for_map (fun G0 i G => ∃ (t5 t6 t8 t9 : Option (Bool × RA.D)), G = up G0 [(4, some (true, .lst ((F.take i).map fun a => RA.D.tup (F.map fun b => .int (F.idxOf (thenA a b) : Nat))))), (5, t5), (6, t6), (7, none), (8, t8), (9, t9)]) ⟨none, none, none, none, rfl⟩ ?_ ?_
    · rintro i p G hp hi ⟨t5, t6, t8, t9, rfl⟩
      refine ⟨_, rfl, ?_⟩
      have hpF : F[i]? = some p.1 := by rw [← hF, List.getElem?_map, hp]; rfl
      have pF := List.mem_of_getElem? hpF
      dsimp! [up_nil]
      refine for_map (fun G0 j G => ∃ (t8 t9 : Option (Bool × RA.D)), G = up G0 [(7, some (true, .lst ((F.take j).map fun b => .int (F.idxOf (thenA p.1 b) : Nat)))), (8, t8), (9, t9)]) ⟨t8, t9, rfl⟩ ?_ ?_
      · rintro j q G hq hj ⟨t8, t9, rfl⟩
        refine ⟨_, rfl, ?_⟩
        have hqF : F[j]? = some q.1 := by rw [← hF, List.getElem?_map, hq]; rfl
        have qF := List.mem_of_getElem? hqF
        have ql := A.len _ qF
        have pl := A.len _ pF
        have px := A.lt _ pF
        dsimp! [up_nil]
        rw [comp_of (xs := p.1) (fun r => .int (nth q.1 r : Nat)) rfl (by omega) fun z x hx hz => ⟨_, rfl, .val, by decide, by
          have hlt := px x (List.mem_of_getElem? hx)
          dsimp! [up_nil]⟩]
        have em : (p.1.map fun r => RA.D.int (nth q.1 r : Nat)) = (thenA p.1 q.1).map (fun (n : Nat) => RA.D.int n) := by rw [List.map_map]; rfl
        rw [em]
        have lx := kv_ix keyL (dIx_lk (n := 0) (A.cl _ pF _ qF))
        rw [Nat.zero_add] at lx
        have lt : (F.take j).length ≤ 40 := by rw [List.length_take]; omega
        dsimp! [lx]
        refine ⟨_, _, by rw [take_snoc hqF, List.map_append]; rfl⟩
      · rintro G ⟨t8, t9, rfl⟩
        have lt : (F.take i).length ≤ 40 := by rw [List.length_take]; omega
        rw [← fil, List.take_length]
        dsimp! [up_nil]
        refine ⟨_, _, _, _, by rw [take_snoc hpF, List.map_append]; rfl⟩
    · rintro G ⟨t5, t6, t8, t9, rfl⟩
      rw [← fil, List.take_length]
      dsimp! [up_nil]
      rfl
end
end RA
/-! W30: the acts as a monoid of numbers; ideals as bits; lots of acts. -/
namespace RA
open PySem PySem.Spec PyProof.Rows L2
/- 376 bits_of(places); slots: 0=places 1=found 2=place; calls:  -/
def i_bits_of : IS := (.seq (.set 1 (.k (.int 0))) (.seq (.for_ (.one 2) (.ex (.v 0)) (.seq (.set 1 (.b .bor (.v 1) (.b .shl (.k (.int 1)) (.v 2)))) .nil)) (.seq (.ret (.v 1)) .nil)))
def f_bits_of : FT := fun _ _ => .no
def m_bits_of : List RA.D → Rs (Bool × RA.D) := mk 1 3 f_bits_of i_bits_of
/- 377 right_ideals(rows); slots: 0=rows 1=row; calls: 376=bits_of -/
def i_right_ideals : IS := (.seq (.ret (.comp (.one 1) (.ex (.v 0)) (.k (.bl true)) (.call 376 (.cons (.v 1) .nil)))) .nil)
def f_right_ideals : FT := fun n ds => match n, ds with | 376, ds => m_bits_of ds | _, _ => .no
@[simp] theorem f_right_ideals_376 (ds : List RA.D) : f_right_ideals 376 ds = m_bits_of ds := (rfl)
def m_right_ideals : List RA.D → Rs (Bool × RA.D) := mk 1 2 f_right_ideals i_right_ideals
/- 378 left_ideals(rows); slots: 0=rows 1=place 2=row; calls: 376=bits_of -/
def i_left_ideals : IS := (.seq (.ret (.comp (.one 1) (.rng1 (.bi .len (.cons (.v 0) .nil))) (.k (.bl true)) (.call 376 (.cons (.comp (.one 2) (.ex (.v 0)) (.k (.bl true)) (.ix (.v 2) (.v 1))) .nil)))) .nil)
def f_left_ideals : FT := fun n ds => match n, ds with | 376, ds => m_bits_of ds | _, _ => .no
@[simp] theorem f_left_ideals_376 (ds : List RA.D) : f_left_ideals 376 ds = m_bits_of ds := (rfl)
def m_left_ideals : List RA.D → Rs (Bool × RA.D) := mk 1 3 f_left_ideals i_left_ideals
/- 379 whole_ideals(rows); slots: 0=rows 1=left 2=found 3=row 4=bits 5=place; calls: 378=left_ideals -/
def i_whole_ideals : IS := (.seq (.set 1 (.call 378 (.cons (.v 0) .nil))) (.seq (.own 2 (.lst .nil)) (.seq (.for_ (.one 3) (.ex (.v 0)) (.seq (.set 4 (.k (.int 0))) (.seq (.for_ (.one 5) (.ex (.v 3)) (.seq (.set 4 (.b .bor (.v 4) (.ix (.v 1) (.v 5)))) .nil)) (.seq (.app 2 (.v 4)) .nil)))) (.seq (.retp 2) .nil))))
def f_whole_ideals : FT := fun n ds => match n, ds with | 378, ds => m_left_ideals ds | _, _ => .no
@[simp] theorem f_whole_ideals_378 (ds : List RA.D) : f_whole_ideals 378 ds = m_left_ideals ds := (rfl)
def m_whole_ideals : List RA.D → Rs (Bool × RA.D) := mk 1 6 f_whole_ideals i_whole_ideals
/- 380 lots_of_acts(machine); slots: 0=machine 1=rows 2=right 3=left; calls: 194=table_2 44=numbered 377=right_ideals 378=left_ideals 379=whole_ideals -/
def f_lots_of_acts : FT := fun n ds => match n, ds with | 194, ds => m_table_2 ds | 44, ds => m_numbered ds | 377, ds => m_right_ideals ds | 378, ds => m_left_ideals ds | 379, ds => m_whole_ideals ds | _, _ => .no
@[simp] theorem f_lots_of_acts_194 (ds : List RA.D) : f_lots_of_acts 194 ds = m_table_2 ds := (rfl)
@[simp] theorem f_lots_of_acts_44 (ds : List RA.D) : f_lots_of_acts 44 ds = m_numbered ds := (rfl)
@[simp] theorem f_lots_of_acts_377 (ds : List RA.D) : f_lots_of_acts 377 ds = m_right_ideals ds := (rfl)
@[simp] theorem f_lots_of_acts_378 (ds : List RA.D) : f_lots_of_acts 378 ds = m_left_ideals ds := (rfl)
@[simp] theorem f_lots_of_acts_379 (ds : List RA.D) : f_lots_of_acts 379 ds = m_whole_ideals ds := (rfl)
local macro_rules | `(tactic| dsimp! [$xs,*]) => `(tactic| simp (disch := first | assumption | omega | (simp only [List.length_map, List.length_append, List.length_cons, List.length_nil, List.length_range, List.length_set]; omega) | decide | rfl) only [inn_lst, inn_dct, inn_ln, isLn_lst, isLn_dct, tstO_eq, x_seq, x_set, x_own, x_do, x_if, x_for, x_whl, x_ret, x_retN, x_pass, x_brk, x_cnt, x_rse, x_fgt, x_frz, x_retp, x_app, x_aug, x_unp, x_put, e_v, e_pk, e_k, e_gl, e_b, e_neg, e_cmp, e_and, e_or, e_not, e_ife, e_tup, e_lst, e_dct, e_dct1, e_lset, e_ix, e_sl, e_rv, rv_lst, e_out, e_bi, e_me, e_call, es_nil, es_cons, i_ex, i_rng1, i_rng2, i_zip, i_rev, valO_ok, pkO_ok, glO_ok, negO_ok, frzO_ok, retO_ok, augO_add, augO_sub, walkO_lst, walkO_tup, walkO_str, zipO_ok, zipI_ok, revO_ok, asB_ok, items_lst, items_tup, items_str, bindT_one, bindT_tup, setAll_nil, setAll_cons, forget_nil, forget_cons, prt_int, prt_out, isOut, keepOk_nil, keepOk_cons, recv_str, b_add, b_sub, c_lt, c_le, c_gt, c_ge, c_ltS, c_gtS, c_eqI, c_neI, c_eqS, c_neS, c_eqB, c_neB, c_isn, c_isnt, c_memS, c_nmemS, sl_lst, len_lst, len_tup, is_str, is_intI, is_boolI, is_boolB, tuple_lst, list_lst, list_tup, find_one, seqO_nx, seqO_no, seqO_rt, seqO_ex, seqO_bk, seqO_ct, seqO_seqO, seqO_ite, x_nil, sat_nx, sat_rt, sat_ex, sat_thru, sat_thru_ct, sat_nxt, sat_t1, sat_t1c, sat_t1r, sat_t1e, Rs.bind_ok, Rs.bind_ex, Rs.out_ok, Rs.out_ex, List.set_cons_succ, List.set_cons_zero, List.getElem?_cons_succ, List.getElem?_cons_zero, List.map_cons, List.map_nil, List.cons_append, List.nil_append, startG, List.reduceReplicate, List.length_cons, List.length_nil, Nat.reduceAdd, Nat.reduceSub, Nat.zero_add, Nat.add_zero, Nat.zero_le, Nat.reduceLeDiff, List.append_nil, reduceCtorEq, if_true, if_false, ite_true, ite_false, ne_eq, not_false_eq_true, not_true_eq_false, decide_true, decide_false, decide_not, Bool.not_true, Bool.not_false, Bool.and_true, Bool.true_and, Bool.and_self, Bool.false_eq_true, and_self, and_true, true_and, decide_eq_true_eq, Int.reduceEq, Int.cast_ofNat_Int, Int.reduceNe, Int.reduceLT, Int.reduceLE, Int.reduceNeg, Int.reduceAdd, Int.reduceSub, tgSlots, freeAt, List.all_cons, List.all_nil, isNon_non, isNon_str, isNon_int, isNon_bl, isNon_tup, isNon_lst, isNon_opq, fin_nx, fin_rt, fin_ex, e_xt, Bool.true_eq_false, eq_self, isc_non, isc_opq, x_xs, x_try, tryO_nx, tryO_rt, tryO_ex, hdG_as, hdG_cst, List.contains_cons, List.contains_nil, Nat.reduceBEq, beq_self_eq_true, up_nil, up_cons, tn_nx, tn_ct, tn_bk, tn_rt, tn_ex, b_fdiv, b_mod, max_two, min_two, ixl, ixt, ixl_last, ixl_zero, ixt_zero, ixs, ixs_last, ixT0, ixT1, ixT12, ixT22, ixL0, ixL1, ixM0, ixM1, ixM2, lenS, slS, rvS, catS, appL, unp2, unp3, r1, r2, r2one, e_comp2, it_nth, nat1, nat1l, natA, natM, natD, natR, natS, natS1, natE, natL, natLe, natL0, natN0, nat0, max_nats, Bool.not_eq_true', Bool.not_eq_false', List.length_map, List.length_append, List.length_range, Bool.true_or, Bool.false_or, Bool.or_true, Bool.or_false, Bool.and_false, Bool.false_and, Bool.or_self, decide_eq_false_iff_not, Nat.lt_irrefl, Bool.not_eq_eq_eq_not, not_true, not_false_iff, Nat.not_lt_zero, f_right_ideals_376, f_left_ideals_376, f_whole_ideals_378, f_lots_of_acts_194, f_lots_of_acts_44, f_lots_of_acts_377, f_lots_of_acts_378, f_lots_of_acts_379, $xs,*])
/-! ### numbers as they first come -/
theorem grw_uniq {l1 l2 : List Nat} (len : l1.length = l2.length) (eq : ∀ i < l1.length, ∀ j < l1.length, (nth l1 i = nth l1 j ↔ nth l2 i = nth l2 j)) (g1 : Grw l1) (g2 : Grw l2) : l1 = l2 := by
  have key : ∀ i, i < l1.length → nth l1 i = nth l2 i := by
    intro i
    induction i using Nat.strongRecOn with
    | ind i ih =>
      intro hi
      refine Classical.byContradiction fun ne => ?_
      rcases Nat.lt_or_gt_of_ne ne with h | h
      · obtain ⟨j, h1, h2⟩ := g2.all (i := i) (by omega) (nth l1 i) (by omega)
        have hj : j < i := by
          rcases Nat.lt_or_ge j i with z | z
          · exact z
          · have : j = i := by omega
            subst this; omega
        have e := ih j hj (by omega)
        have := (eq j (by omega) i hi).mp (by rw [e, h2])
        omega
      · obtain ⟨j, h1, h2⟩ := g1.all (i := i) hi (nth l2 i) (by omega)
        have hj : j < i := by
          rcases Nat.lt_or_ge j i with z | z
          · exact z
          · have : j = i := by omega
            subst this; omega
        have e := ih j hj (by omega)
        have := (eq j (by omega) i hi).mpr (by rw [← e, h2])
        omega
  refine List.ext_getElem len fun i h1 h2 => ?_
  have := key i h1
  rw [nth_of (List.getElem?_eq_getElem h1), nth_of (List.getElem?_eq_getElem h2)] at this
  exact this
/-! ### bits -/
/-! ### a monoid of numbers -/
structure Mon (N : Nat) (mul : Nat → Nat → Nat) : Prop where
  pos : 0 < N
  lt : ∀ i < N, ∀ j < N, mul i j < N
  assoc : ∀ i < N, ∀ j < N, ∀ k < N, mul (mul i j) k = mul i (mul j k)
  one_l : ∀ i < N, mul 0 i = i
  one_r : ∀ i < N, mul i 0 = i
/-- the acts, by their places -/
def mulF (F : List (List Nat)) (i j : Nat) : Nat := F.idxOf (thenA (it F i) (it F j))
def rowN (N : Nat) (mul : Nat → Nat → Nat) (i : Nat) : List Nat := (List.range N).map (mul i)
def tabN (N : Nat) (mul : Nat → Nat → Nat) : List RA.D := (List.range N).map fun i => .tup ((rowN N mul i).map (fun (n : Nat) => RA.D.int n))
theorem map_it {α β : Type} [Inhabited α] (f : α → β) (l : List α) : l.map f = (List.range l.length).map fun i => f (it l i) := by
  refine List.ext_getElem? fun i => ?_
  rw [List.getElem?_map, List.getElem?_map]
  by_cases h : i < l.length
  · rw [it_get h, List.getElem?_range h]; rfl
  · rw [List.getElem?_eq_none (by omega), List.getElem?_eq_none (by rw [List.length_range]; omega)]; rfl
theorem TB_tab (F : List (List Nat)) : TB F = tabN F.length (mulF F) := by
  unfold TB tabN rowN
  rw [map_it]
  refine List.map_congr_left fun i _ => ?_
  show RA.D.tup (F.map fun b => .int (F.idxOf (thenA (it F i) b) : Nat)) = _
  rw [map_it (fun b => RA.D.int (F.idxOf (thenA (it F i) b) : Nat)) F, List.map_map]; rfl
/-- what is come to by what is put behind, ahead, both -/
def Rr (N : Nat) (mul : Nat → Nat → Nat) (i x : Nat) : Prop := ∃ k < N, x = mul i k
section
variable {N : Nat} {mul : Nat → Nat → Nat}
theorem Mon.rt (M : Mon N mul) {i x y : Nat} (hi : i < N) (a : Rr N mul i x) (b : Rr N mul x y) : Rr N mul i y := by
  obtain ⟨k, hk, rfl⟩ := a
  obtain ⟨k', hk', rfl⟩ := b
  exact ⟨mul k k', M.lt k hk k' hk', M.assoc i hi k hk k' hk'⟩
/-! ### ideals -/
/-- one lot's numbers -/
structure LotN (N : Nat) (R : Nat → Nat → Prop) (l : List Nat) : Prop where
  len : l.length = N
  gr : Grw l
  eq : ∀ i < N, ∀ j < N, (nth l i = nth l j ↔ R i j ∧ R j i)
theorem LotN.uniq {R : Nat → Nat → Prop} {a b : List Nat} (h : LotN N R a) (g : LotN N R b) : a = b :=
  grw_uniq (h.len.trans g.len.symm) (fun i hi j hj => by rw [h.len] at hi hj; rw [h.eq i hi j hj, g.eq i hi j hj]) h.gr g.gr
end
/-! ### the acts are a monoid -/
end RA
/-! RAK: defs that clear lists which others hold, too. -/
namespace RA
open PySem PySem.Spec PyProof.Rows L2
variable [Tabs] [LentT]
/-- all stays but lists, and lists of B stay -/
structure KX (B : Addr → Prop) (H H' : Hp) : Prop where
  st : ∀ a o, (B a ∨ ∀ vs, o ≠ HO.lst vs) → H a = some o → NoT o → H' a = some o
  al : ∀ a, H a ≠ none → H' a ≠ none
  tbl : ∀ a ps, H a = some (.tbl ps) → ∃ qs, H' a = some (.tbl qs)
  tab : TabsOk H → TabsOk H'
theorem KX.refl {B : Addr → Prop} {H : Hp} : KX B H H := ⟨fun _ _ _ h _ => h, fun _ h => h, fun _ _ h => ⟨_, h⟩, fun t => t⟩
theorem KX.trans {B B' : Addr → Prop} {H H1 H2 : Hp} (s : KX B H H1) (t : KX B' H1 H2) (hb : ∀ a, B a → B' a) : KX B H H2 :=
  ⟨fun a o h e n => t.st a o (h.imp (hb a) id) (s.st a o h e n) n, fun a h => t.al a (s.al a h), fun a ps h => let ⟨_, q⟩ := s.tbl a ps h; t.tbl a _ q, fun x => t.tab (s.tab x)⟩
theorem KX.same {B : Addr → Prop} {H H' : Hp} (s : Same H H') : KX B H H' := ⟨fun a o _ h n => s.keep a o h n, s.there, s.tbl, s.tab⟩
theorem KX.clear {B : Addr → Prop} {H : Hp} {a : Addr} {vs ws : List V} (h : H a = some (.lst vs)) (hb : ¬ B a) : KX B H (upd H a (.lst ws)) := by
  refine ⟨fun b o hc e _ => ?_, fun b hn => ?_, fun b ps e => ⟨ps, by rw [upd_ne (fun z => by rw [z, h] at e; cases e)]; exact e⟩, fun t => t.wr h trivial fun b nb _ => upd_ne nb⟩
  · by_cases q : b = a
    · subst q
      rw [h] at e; cases e
      rcases hc with hc | hc
      · exact absurd hc hb
      · exact absurd rfl (hc vs)
    · rw [upd_ne q]; exact e
  · by_cases q : b = a
    · subst q; rw [upd_same]; intro z; cases z
    · rw [upd_ne q]; exact hn
section
variable {c : Cfg} {B Z : Addr → Prop} {H H' : Hp}
mutual
theorem Rep.lowk (k : ∀ a o, (∀ vs, o ≠ HO.lst vs) → H a = some o → NoT o → H' a = some o) (hz : ∀ b, Z b → B b) : ∀ {d : D} {v : V}, noL d = true → Rep c B H d v → Rep c Z H' d v
  | _, _, _, .non => .non
  | _, _, _, .bl b => .bl b
  | _, _, _, .int i => .int i
  | _, _, _, .str s => .str s
  | _, _, h, .tup t r => .tup (t.imp (fun z => ⟨z.1.imp (fun h => k _ _ (fun vs z => nomatch z) h trivial) (fun ⟨o, z⟩ => ⟨o, k _ _ (fun vs z => nomatch z) z trivial⟩), fun q => z.2 (hz _ q)⟩) id) (Reps.lowk k hz (by simpa only [noL] using h) r)
  | _, _, h, .lst _ _ => by simp [noL] at h
  | _, _, h, .dctK _ _ _ => by simp [noL] at h
  | _, _, h, .dctT _ _ _ => by simp [noL] at h
  | _, _, h, .opq _ _ => by simp [noL] at h
theorem Reps.lowk (k : ∀ a o, (∀ vs, o ≠ HO.lst vs) → H a = some o → NoT o → H' a = some o) (hz : ∀ b, Z b → B b) : ∀ {ds : List D} {vs : List V}, noLs ds = true → Reps c B H ds vs → Reps c Z H' ds vs
  | _, _, _, .nil => .nil
  | _, _, h, .cons r t => by
    simp only [noLs, Bool.and_eq_true] at h
    exact .cons (r.lowk k hz h.1) (t.lowk k hz h.2)
end
theorem RepK.lowk (k : ∀ a o, (∀ vs, o ≠ HO.lst vs) → H a = some o → NoT o → H' a = some o) (hz : ∀ b, Z b → B b) : ∀ {kvs : List (D × D)} {us : List (Leaf × Value)}, (kvs.all fun kv => noL kv.1 && noL kv.2) = true → RepK c B H kvs us → RepK c Z H' kvs us
  | _, _, _, .nil => .nil
  | _, _, h, .cons e r ru t => by
    simp only [List.all_cons, Bool.and_eq_true] at h
    exact .cons e (r.lowk k hz h.1.2) ru (t.lowk k hz h.2)
theorem RepT.lowk (k : ∀ a o, (∀ vs, o ≠ HO.lst vs) → H a = some o → NoT o → H' a = some o) (hz : ∀ b, Z b → B b) : ∀ {kvs : List (D × D)} {us : List (NestedKey × Addr × Value)}, (kvs.all fun kv => noL kv.1 && noL kv.2) = true → RepT c B H kvs us → RepT c Z H' kvs us
  | _, _, _, .nil => .nil
  | _, _, h, .cons e dp rk r ru t => by
    simp only [List.all_cons, Bool.and_eq_true] at h
    exact .cons e dp (rk.lowk k hz h.1.1) (r.lowk k hz h.1.2) ru (t.lowk k hz h.2)
end
/-- what is known still when lists have changed -/
def killS : Option (Bool × RA.D) → Option (Bool × RA.D)
  | some x => if lendOk x = true then some x else none
  | none => none
def killG (G : Ev) : Ev := G.map killS
theorem kill_get {G : Ev} {i : Nat} {x : Bool × RA.D} (h : (killG G)[i]? = some (some x)) : G[i]? = some (some x) ∧ lendOk x = true := by
  unfold killG at h
  rw [List.getElem?_map] at h
  cases e : G[i]? with
  | none => rw [e] at h; cases h
  | some y =>
    rw [e] at h
    cases y with
    | none => cases h
    | some y =>
      have h : some (killS (some y)) = some (some x) := h
      unfold killS at h
      split at h
      · rename_i y' e1 
        rename_i hy
        cases e1
        split at h
        · cases h; exact ⟨rfl, by assumption⟩
        · cases h
      · cases h
section
variable {c : Cfg} {B : Addr → Prop} {H0 H H' : Hp} {G G' : Ev} {σ σ' : L2.St}
theorem own_kill {a : Addr} (h : Owned (killG G) σ a) : Owned G σ a := by
  obtain ⟨i, d, e, h⟩ := h
  exact ⟨i, d, (kill_get e).1, h⟩
theorem StOk.kill (Su : StOk c B G σ H) (k : KX (Zof B G σ) H H') : StOk c B (killG G) σ H' := by
  have oat : ∀ i a, ownedAt (killG G) σ i a → ownedAt G σ i a := fun i a ⟨d, e, h⟩ => ⟨d, (kill_get e).1, h⟩
  have lz : ∀ b, Zof B (killG G) σ b → Zof B G σ b := fun b h => h.imp id own_kill
  have st : ∀ a o, (∀ vs, o ≠ HO.lst vs) → H a = some o → NoT o → H' a = some o := fun a o h => k.st a o (.inr h)
  refine ⟨by rw [killG, List.length_map]; exact Su.len, fun a h => k.al a (Su.tr a h), k.tab Su.tab, fun a h => Su.apart a (own_kill h), fun i j a h1 h2 => Su.uniq i j a (oat i a h1) (oat j a h2), fun i d e => ?_, fun i d e => ?_⟩
  · obtain ⟨e1, e2⟩ := kill_get e
    obtain ⟨v, h1, h2⟩ := Su.val i d e1
    exact ⟨v, h1, h2.lowk st lz e2⟩
  · obtain ⟨e1, e2⟩ := kill_get e
    obtain ⟨a, h1, h2⟩ := Su.own i d e1
    have za : Zof B G σ a := .inr ⟨i, d, e1, h1⟩
    refine ⟨a, h1, ?_⟩
    have go : ∀ d', lendOk (true, d') = true → OwnAt c (Zof B G σ) H d' a → OwnAt c (Zof B (killG G) σ) H' d' a := fun d' e2 h2 => by
      cases h2 with
      | lst h r => exact .lst (k.st _ _ (.inl za) h trivial) (r.lowk st lz e2)
      | dctK h r => exact .dctK (k.st _ _ (.inl za) h trivial) (r.lowk st lz e2)
      | dctT h r => exact .dctT (k.st _ _ (.inl za) h trivial) (r.lowk st lz e2)
    rcases h2 with h2 | ⟨j, ds, rfl, hj, h2⟩
    · exact .inl (go d e2 h2)
    · cases e2
/-- where a def stands that began at H0 -/
structure Wk (c : Cfg) (B : Addr → Prop) (H0 : Hp) (G : Ev) (σ : L2.St) (H : Hp) : Prop where
  su : StOk c B G σ H
  kx : KX B H0 H
  fr : ∀ a, Owned G σ a → H0 a = none
theorem Wk.ext (w : Wk c B H0 G σ H) (e : Ext (Owned G σ) H H') : KX B H0 H' :=
  ⟨fun a o h e0 n => e.keep a o (fun z => by rw [w.fr a z] at e0; cases e0) (w.kx.st a o h e0 n) n, fun a h => e.there a (fun z => h (w.fr a z)) (w.kx.al a h), fun a ps h => let ⟨_, q⟩ := w.kx.tbl a ps h; e.tbl a _ (fun z => by rw [w.fr a z] at h; cases h) q, fun x => e.tab (w.kx.tab x)⟩
theorem Wk.step (w : Wk c B H0 G σ H) (su : StOk c B G' σ' H') (s : Step G σ H G' σ' H') : Wk c B H0 G' σ' H' :=
  ⟨su, w.ext s.ext, fun a h => (s.own a h).elim (w.fr a) fun n => by
    cases e : H0 a with
    | none => rfl
    | some o => exact absurd n (w.kx.al a (by rw [e]; intro z; cases z))⟩
theorem Wk.same (w : Wk c B H0 G σ H) (s : Same H H') : Wk c B H0 G σ H' := w.step (w.su.same s) (Step.of s fun a z => .inl z)
theorem Wk.kill (w : Wk c B H0 G σ H) (k : KX (Zof B G σ) H H') : Wk c B H0 (killG G) σ H' := ⟨w.su.kill k, w.kx.trans k (fun a z => .inl z), fun a h => w.fr a (own_kill h)⟩
end
/-! ### statements -/
inductive WS where
  | nil
  | st (s : IS) (r : WS) | fgt (is : List Nat) (r : WS) | frz (i : Nat) (r : WS)
  | cas (t : IE) (a r : WS)
  | kif (g : Option IE) (f : Nat) (as : IEs) (r : WS)
  | kret (g : Option IE) (f : Nat) (as : IEs)
  | clr (e : IE) (r : WS)
  | rng (i n : Nat) (b r : WS)
  | two (is : List Nat) (e t : IE) (a : IS) (g : IE) (f : Nat) (as1 as2 : IEs) (r : WS)
  | cle (i j k1 k2 : Nat) (e t : IE) (r : WS)
  | swi (r : WS)
/-- a call of such a def -/
def wcall (F : FT) (f : Nat) (as : IEs) (G : Ev) : Option Bool := match evs F as G with
  | .ok xs => if keepOk xs = true then (match F f (xs.map (·.2)) with | .ok (false, .bl b) => some b | _ => none) else none
  | _ => none
def isIntD : RA.D → Bool
  | .int _ => true
  | _ => false
def gateO (F : FT) (g : Option IE) (b : Bool) (G : Ev) : Rs Bool := match g with
  | none => .ok b
  | some t => asB (ev F t G)
def rtB (b : Bool) : Out := .rt false (.bl b)
def kifO (r : Ev → Out) (c : Option Bool) (G : Ev) : Rs Bool → Out
  | .ok true => rtB false
  | .ok false => (match c with | some true => r (killG G) | some false => rtB false | none => .no)
  | _ => .no
def kretO (c : Option Bool) : Rs Bool → Out
  | .ok false => rtB false
  | .ok true => (match c with | some b => rtB b | none => .no)
  | _ => .no
def stO (r : Ev → Out) : Out → Out
  | .nx G => r G
  | .rt false (.bl b) => rtB b
  | _ => .no
def casO (a r : Ev → Out) (G : Ev) : Rs Bool → Out
  | .ok true => (match a G with | .rt o d => .rt o d | _ => .no)
  | .ok false => r G
  | _ => .no
def frzW (r : Ev → Out) (G : Ev) (i : Nat) : Option (Option (Bool × RA.D)) → Out
  | some (some (true, d)) => if isLn d = true then .no else r (G.set i (some (false, d)))
  | _ => .no
def clrW (r : Ev → Out) (G : Ev) : Rs (Fl × RA.D) → Out
  | .ok (.val, .lst ds) => if ds.all isIntD = true then .no else r (killG G)
  | _ => .no
def wloop (f : Ev → Out) (i : Nat) : Nat → Nat → Ev → Out
  | 0, _, G => .nx G
  | m + 1, j, G => match f (G.set i (some (false, .int j))) with
    | .nx G' => wloop f i m (j + 1) G'
    | o => o
def seqW (r : Ev → Out) : Out → Out
  | .nx G => r G
  | o => o
def noOwn (G : Ev) : Bool := G.all fun x => match x with | some (true, _) => false | _ => true
def twoT (F : FT) (n : Nat) (is : List Nat) (a : IS) (f : Nat) (as1 as2 : IEs) (r : Ev → Out) (G G1 N1 : Ev) (g : Rs Bool) : Rs Bool → Out
  | .ok true => stO (fun _ => .no) (exec F n a G1)
  | .ok false => kifO (fun _ => kifO r (wcall F f as2 N1) N1 (.ok false)) (wcall F f as1 (forget is G)) G1 g
  | _ => .no
/-- x, y = e (e of what leans on no list); if t: a; if g or not f(as1): return False; if not f(as2): return False -/
def twoO (F : FT) (n : Nat) (is : List Nat) (t : IE) (a : IS) (g : IE) (f : Nat) (as1 as2 : IEs) (r : Ev → Out) (G : Ev) : Rs (Fl × RA.D) → Out
  | .ok (fl, d) => if fl = .tmp ∨ noOwn G = false then .no else (match bindT (.tup is) d G, bindT (.tup is) d (killG G) with
    | some G1, some N1 => twoT F n is a f as1 as2 r G G1 N1 (asB (ev F g G1)) (asB (ev F t G1))
    | _, _ => .no)
  | _ => .no
/-! ### lists that are handed out, cleared by a loop -/
def isIL : RA.D → Bool
  | .lst (x :: xs) => (x :: xs).all isIntD
  | _ => false
def pairIL : RA.D → Bool
  | .tup [.int _, d] => isIL d
  | _ => false
mutual
/-- no list of numbers within -/
def noIL : RA.D → Bool
  | .non => true
  | .bl _ => true
  | .int _ => true
  | .str _ => true
  | .tup xs => noILs xs
  | .lst xs => !(xs.all isIntD) && noILs xs
  | .dct _ => false
  | .opq _ _ => false
def noILs : List RA.D → Bool
  | [] => true
  | x :: xs => noIL x && noILs xs
end
def keepI : Option (Bool × RA.D) → Option (Bool × RA.D)
  | some (false, d) => if noIL d = true then some (false, d) else none
  | _ => none
def killI (G : Ev) : Ev := G.map keepI
/-- N[i] = e; if t: return False; for N[k1], N[k2] in N[j]: N[k2].clear() -/
def cleT (G2 : Ev) (i k1 k2 : Nat) (d : RA.D) (r : Ev → Out) : Rs Bool → Out
  | .ok true => rtB false
  | .ok false => r (forget [k1, k2] (G2.set i (some (false, d))))
  | _ => .no
def cleE (F : FT) (G G2 : Ev) (i k1 k2 : Nat) (t : IE) (r : Ev → Out) : Rs (Fl × RA.D) → Out
  | .ok (fl, d) => if fl = .tmp then .no else cleT G2 i k1 k2 d r (asB (ev F t (G.set i (some (false, d)))))
  | _ => .no
def cleO (F : FT) (i j k1 k2 : Nat) (e t : IE) (r : Ev → Out) (G : Ev) : Option (Option (Bool × RA.D)) → Out
  | some (some (false, .lst ds)) => if (ds.all pairIL && noOwn G && decide (i ≠ j) && decide (k1 ≠ k2) && decide (k2 < G.length)) = true then cleE F G (killI (G.set j none)) i k1 k2 t r (ev F e (killI (G.set j none))) else .no
  | _ => .no
/-- all is free of lists -/
def freeG (G : Ev) : Bool := G.all fun x => match x with | some (true, _) => false | some (false, d) => noL d | none => true
def wx (F : FT) (n : Nat) : WS → Ev → Out
  | .nil, G => .nx G
  | .st s r, G => stO (wx F n r) (exec F n s G)
  | .fgt is r, G => wx F n r (forget is G)
  | .frz i r, G => frzW (wx F n r) G i G[i]?
  | .cas t a r, G => casO (wx F n a) (wx F n r) G (asB (ev F t G))
  | .kif g f as r, G => kifO (wx F n r) (wcall F f as G) G (gateO F g false G)
  | .kret g f as, G => kretO (wcall F f as G) (gateO F g true G)
  | .clr e r, G => clrW (wx F n r) G (ev F e G)
  | .rng i k b r, G => seqW (wx F n r) (wloop (wx F n b) i k 0 G)
  | .two is e t a g f as1 as2 r, G => twoO F n is t a g f as1 as2 (wx F n r) G (ev F e (killG G))
  | .cle i j k1 k2 e t r, G => cleO F i j k1 k2 e t (wx F n r) G G[j]?
  | .swi r, G => if freeG G = true then wx F n r G else .no
termination_by structural x => x
def wrun (F : FT) (n : Nat) (N : Nat) (b : WS) (ds : List RA.D) : Rs (Bool × RA.D) := match wx F n b (startG N ds) with
  | .rt false (.bl b) => .ok (false, .bl b)
  | _ => .no
/-! ### the check -/
def okC (S : Stat) (ks : List Nat) (sc : Scope) (f : Nat) (as : IEs) : Expr → Bool
  | .Call (.Name x _) es [] _ => decide (S.nm f = x) && ks.contains f && isGl sc x && plainN x && okA S as sc es && !es.isEmpty
  | _ => false
theorem okC_of {S : Stat} {ks : List Nat} {sc : Scope} {f : Nat} {as : IEs} {e : Expr} (h : okC S ks sc f as e = true) : ∃ x p es pos, e = .Call (.Name x p) es [] pos ∧ S.nm f = x ∧ ks.contains f = true ∧ isGl sc x = true ∧ plainN x = true ∧ okA S as sc es = true ∧ es.isEmpty = false := by
  unfold okC at h
  split at h
  · simp only [Bool.and_eq_true, decide_eq_true_eq, Bool.not_eq_true'] at h
    obtain ⟨⟨⟨⟨⟨h1, h2⟩, h3⟩, h4⟩, h5⟩, h6⟩ := h
    exact ⟨_, _, _, _, rfl, h1, h2, h3, h4, h5, h6⟩
  · cases h
/-- if not f(..): return False; if g or not f(..): return False -/
def kifDec : Option IE → Stmt → Option (Option Expr × Expr)
  | none, .If (.UnaryOp .Not e _) [.Return (some (.Constant (.bool false) _ _)) _] [] _ => some (none, e)
  | some _, .If (.BoolOp .Or [g, .UnaryOp .Not e _] _) [.Return (some (.Constant (.bool false) _ _)) _] [] _ => some (some g, e)
  | _, _ => none
def kretDec : Option IE → Stmt → Option (Option Expr × Expr)
  | none, .Return (some e) _ => some (none, e)
  | some _, .Return (some (.BoolOp .And [g, e] _)) _ => some (some g, e)
  | _, _ => none
def okG (S : Stat) (sc : Scope) : Option IE → Option Expr → Bool
  | none, none => true
  | some g, some e => isTst g && okE S g sc e
  | _, _ => false
def clrDec : Stmt → Option Expr
  | .Expr (.Call (.Attribute o y apos) [] [] cpos) _ => if (decide (y = "clear") && (apos.endLine == cpos.line) && notC0 o) = true then some o else none
  | _ => none
def ifDec : Stmt → Option (Expr × List Stmt)
  | .If tx as [] _ => some (tx, as)
  | _ => none
/-- for x in range(n): body -/
def rngDec : Stmt → Option (Str × Str × Int × List Stmt)
  | .For (.Name x _) (.Call (.Name y _) [.Constant (.int k) _ _] [] _) b [] _ => some (x, y, k, b)
  | _ => none
def unpDec : Stmt → Option (List Expr × Expr)
  | .Assign [.Tuple es _ _] v _ => some (es, v)
  | _ => none
/-- if t: return False -/
def kbDec : Stmt → Option Expr
  | .If e [.Return (some (.Constant (.bool false) _ _)) _] [] _ => some e
  | _ => none
/-- for x, y in z: y.clear() -/
def cleDec (S : Stat) (sc : Scope) (j k1 k2 : Nat) : Stmt → Bool
  | .For tg (.Name z _) [.Expr (.Call (.Attribute (.Name y _) m apos) [] [] cpos) _] [] _ => okT S (stF sc) (.tup [k1, k2]) tg && okV S sc j z && okV S sc k2 y && decide (m = "clear") && (apos.endLine == cpos.line)
  | _ => false
def setDec : Stmt → Option (Str × Expr)
  | .Assign [.Name x _] v _ => some (x, v)
  | _ => none
def okW (S : Stat) (xs : List (Nat × Str)) (ks : List Nat) (sc : Scope) : WS → List Stmt → Bool
  | .nil, [] => true
  | .st s r, st :: sts => okSt S xs sc s st && okW S xs ks sc r sts
  | .fgt _ r, sts => okW S xs ks sc r sts
  | .frz _ r, sts => okW S xs ks sc r sts
  | .cas t a r, st :: sts => (match ifDec st with | some (tx, as) => isTst t && okE S t sc tx && okW S xs ks sc a as | none => false) && okW S xs ks sc r sts
  | .kif g f as r, st :: sts => (match kifDec g st with | some (gx, e) => okG S sc g gx && okC S ks sc f as e | none => false) && okW S xs ks sc r sts
  | .kret g f as, [st] => (match kretDec g st with | some (gx, e) => okG S sc g gx && okC S ks sc f as e | none => false)
  | .clr e r, st :: sts => (match clrDec st with | some o => okE S e sc o | none => false) && okW S xs ks sc r sts
  | .rng i n b r, st :: sts => (match rngDec st with | some (x, y, k, bs) => decide (k = n) && smallI k && okB S sc "range" y && okN S sc i x && okW S xs ks sc b bs | none => false) && okW S xs ks sc r sts
  | .two is e t a g f as1 as2 r, s1 :: s2 :: s3 :: s4 :: sts =>
    (match unpDec s1 with | some (es, v) => okTs S (stF sc) is es && decide (is.length = es.length) && noComp v && okE S e sc v | none => false) &&
    (match ifDec s2 with | some (tx, as) => isTst t && okE S t sc tx && okSts S xs sc a as | none => false) &&
    (match kifDec (some g) s3 with | some (some gx, ex) => isTst g && okE S g sc gx && okC S ks sc f as1 ex | _ => false) &&
    (match kifDec none s4 with | some (_, ex) => okC S ks sc f as2 ex | none => false) && okW S xs ks sc r sts
  | .cle i j k1 k2 e t r, s1 :: s2 :: s3 :: sts =>
    (match setDec s1 with | some (x, v) => okN S sc i x && okE S e sc v | none => false) &&
    (match kbDec s2 with | some tx => isTst t && okE S t sc tx | none => false) && cleDec S sc j k1 k2 s3 && okW S xs ks sc r sts
  | .swi r, sts => okW S xs ks sc r sts
  | _, _ => false
termination_by structural x => x
/-- whether it clears lists so -/
def hasC : WS → Bool
  | .nil => false
  | .st _ r => hasC r
  | .fgt _ r => hasC r
  | .frz _ r => hasC r
  | .cas _ a r => hasC a || hasC r
  | .kif _ _ _ r => hasC r
  | .kret _ _ _ => false
  | .clr _ r => hasC r
  | .rng _ _ b r => hasC b || hasC r
  | .two _ _ _ _ _ _ _ _ r => hasC r
  | .cle _ _ _ _ _ _ _ => true
  | .swi r => hasC r
/-! ### that it does so -/
/-- a def's promise: it answers; lists may have changed -/
def spK (c : Cfg) (m : List RA.D → Rs (Bool × RA.D)) : Sp := fun vs H Q _ => ∃ (B : Addr → Prop) (ds : List RA.D) (b : Bool), (∀ a, B a → H a ≠ none) ∧ TabsOk H ∧ Reps c B H ds vs ∧ m ds = .ok (false, .bl b) ∧ ∀ H', KX B H H' → Q (.bl b) H'
def FOkK (c : Cfg) (nm : Nat → Str) (k n : Nat) (m : List RA.D → Rs (Bool × RA.D)) : Prop :=
  ∃ (f : Addr) (fd : FuncData) (ps : List Str), c.mg (nm n) = some (.ref f) ∧ PySem.W.keepIn c.K (.ref f) = true ∧ Binds c.K fd ps [] ∧ FnOk c.P c.w c.K c.mg c.base (L2.CX c.P c.w) k f fd ps (spK c m)
theorem FOkK.mono {c : Cfg} {nm : Nat → Str} {j k n : Nat} {m : List RA.D → Rs (Bool × RA.D)} (h : FOkK c nm j n m) (e : j ≤ k) : FOkK c nm k n m := by
  obtain ⟨f, fd, ps, h1, h2, h3, h4⟩ := h
  exact ⟨f, fd, ps, h1, h2, h3, h4.mono e⟩
def ResW (c : Cfg) (B : Addr → Prop) (H0 : Hp) (D : Ends) (o : Out) : Prop := match o with
  | .nx G' => ∀ σ' H', Wk c B H0 G' σ' H' → D.nx σ' H'
  | .rt false (.bl b) => ∀ H', KX B H0 H' → D.rt (.bl b) H'
  | _ => False
def tW (c : Cfg) (B : Addr → Prop) (H0 : Hp) (f : Ev → Out) : TS := fun D σ H => ∃ G, Wk c B H0 G σ H ∧ ResW c B H0 D (f G)
def tKC (c : Cfg) (B : Addr → Prop) (F : FT) (f : Nat) (as : IEs) (G : Ev) : TE := fun σ H Q => ∃ b, StOk c B G σ H ∧ wcall F f as G = some b ∧ ∀ H', KX (Zof B G σ) H H' → Q (.bl b) H'
section
variable {O : OpT} {S : Stat} {X : Cx} {W : WX} {sc : Scope} {xs : List (Nat × Str)} {B : Addr → Prop} {n : Nat} {H0 : Hp} {ks : List Nat}
theorem pe_kcall (C : CtxOk S X O W sc) (hks : ∀ f, ks.contains f = true → FOkK (cfg X O) S.nm S.k f (S.F f)) {f : Nat} {as : IEs} {e : Expr} (h : okC S ks sc f as e = true) (G : Ev) : PE X e (tKC (cfg X O) B S.F f as G) := by
  obtain ⟨x, p, es, pos, rfl, h1, h2, h3, h4, h5, h6⟩ := okC_of h
  subst h1
  obtain ⟨fa, fd, ps, hm, hk, hb, F⟩ := hks f h2
  obtain ⟨p1, p2, p3⟩ := plainN_of h4
  have hA := evs_ok (O := O) S as X W sc B G es C h5
  cases es with
  | nil => cases h6
  | cons e es =>
    have hs : starEach (e :: es) X.env = (false, eval e X.env) :: starEach es X.env := by
      cases as with
      | nil => simp [okA] at h5
      | cons x as => simp only [okA, Bool.and_eq_true] at h5; exact star_cons (okE_plain h5.1)
    have hpl : (backTo pos (starEach es X.env)).any (·.1) = false := by
      cases as with
      | nil => simp [okA] at h5
      | cons x as => simp only [okA, Bool.and_eq_true] at h5; exact okA_back h5.2
    refine (pe_callS F C.room (C.gl h3) hm hk hb (fun σ => passAt C.tk σ) hA p1 hs hpl).weak fun σ H Q ⟨b, Su, hw, q⟩ => ?_
    unfold wcall at hw
    refine ⟨Su, ?_⟩
    cases ea : evs S.F as G with
    | no => rw [ea] at hw; cases hw
    | ex c fs => rw [ea] at hw; cases hw
    | ok ys =>
      rw [ea] at hw
      dsimp only at hw
      split at hw
      · rename_i hkp
        split at hw
        · rename_i b' e1
          cases hw
          exact fun vs H1 s1 rs => ⟨Zof B G σ, ys.map (·.2), b, (Su.same s1).ztr, s1.tab Su.tab, rs.keep hkp Su.ztr, e1, fun H' kx => q H' ((KX.same s1).trans kx fun a z => z)⟩
        · cases hw
      · cases hw
theorem pss_retF {j : Nat} {p1 p2 : Pos} : PSs X [.Return (some (.Constant (.bool false) j p1)) p2] (fun D σ H => D.rt (.bl false) H) := pss_one ((ps_ret pe_bl).weak fun D σ H h => h)
theorem kif_ps (C : CtxS S X O W sc xs) (hks : ∀ f, ks.contains f = true → FOkK (cfg X O) S.nm S.k f (S.F f)) {g : Option IE} {f : Nat} {as : IEs} {st : Stmt} {gx : Option Expr} {e : Expr} (hd : kifDec g st = some (gx, e)) (hg : okG S sc g gx = true) (h : okC S ks sc f as e = true) (G : Ev) :
    PS X st (fun D σ H => Wk (cfg X O) B H0 G σ H ∧ ResW (cfg X O) B H0 D (kifO (fun G => .nx G) (wcall S.F f as G) G (gateO S.F g false G))) := by
  have hc := pe_kcall (B := B) C.toCtxOk hks h G
  have hcl : ∀ whole, isTrue e X.env whole = (do let v ← whole; standAt e.pos; holding [v] (truthy v)) := by
    obtain ⟨x, p, es, pos, rfl, _⟩ := okC_of h
    intro _; rfl
  have ht := pt_val hc hcl
  have key : ∀ {D : Ends} {σ : L2.St} {H : Hp}, Wk (cfg X O) B H0 G σ H → ResW (cfg X O) B H0 D (kifO (fun G => .nx G) (wcall S.F f as G) G (.ok false)) →
      tNot (tB (tKC (cfg X O) B S.F f as G)) σ H fun b H1 => if b = true then D.rt (.bl false) H1 else D.nx σ H1 := fun {D σ H} w R => by
    unfold kifO at R
    dsimp only at R
    split at R
    · rename_i e1
      exact ⟨true, w.su, e1, fun H' kx => ⟨true, rfl, R σ H' (w.kill kx)⟩⟩
    · rename_i e1
      exact ⟨false, w.su, e1, fun H' kx => ⟨false, rfl, R H' (w.kx.trans kx fun a z => .inl z)⟩⟩
    · exact False.elim R
  cases g with
  | none =>
    unfold kifDec at hd
    split at hd
    · cases hd
      exact (ps_if (pt_not ht) pss_retF pss_nil).weak fun D σ H ⟨w, R⟩ => key w R
    · contradiction
    · cases hd
  | some g' =>
    unfold kifDec at hd
    split at hd
    · contradiction
    · cases hd
      have hg : (isTst g' && okE S g' sc _) = true := hg
      rw [Bool.and_eq_true] at hg
      have hgt := (ev_ok (O := O) S g' X W sc B G _ C.toCtxOk hg.2).2 hg.1
      refine (ps_if (pw_or hgt (pw_or1 (pt_not ht))).pt pss_retF pss_nil).weak fun D σ H ⟨w, R⟩ => ?_
      have R : ResW (cfg X O) B H0 D (kifO (fun G => .nx G) (wcall S.F f as G) G (asB (ev S.F g' G))) := R
      refine ⟨w.su, ?_⟩
      cases eg : asB (ev S.F g' G) with
      | no => rw [eg] at R; exact R
      | ex c fs => rw [eg] at R; exact False.elim R
      | ok gb =>
        rw [eg] at R
        intro H1 s1
        cases gb with
        | true => exact R H1 (w.same s1).kx
        | false => exact key (w.same s1) R
    · cases hd
theorem kret_ps (C : CtxS S X O W sc xs) (hks : ∀ f, ks.contains f = true → FOkK (cfg X O) S.nm S.k f (S.F f)) {g : Option IE} {f : Nat} {as : IEs} {st : Stmt} {gx : Option Expr} {e : Expr} (hd : kretDec g st = some (gx, e)) (hg : okG S sc g gx = true) (h : okC S ks sc f as e = true) (G : Ev) :
    PS X st (fun D σ H => Wk (cfg X O) B H0 G σ H ∧ ResW (cfg X O) B H0 D (kretO (wcall S.F f as G) (gateO S.F g true G))) := by
  have hc := pe_kcall (B := B) C.toCtxOk hks h G
  have key : ∀ {D : Ends} {σ : L2.St} {H : Hp}, Wk (cfg X O) B H0 G σ H → ResW (cfg X O) B H0 D (kretO (wcall S.F f as G) (.ok true)) → tKC (cfg X O) B S.F f as G σ H D.rt := fun {D σ H} w R => by
    unfold kretO at R
    dsimp only at R
    split at R
    · rename_i b e1
      exact ⟨b, w.su, e1, fun H' kx => R H' (w.kx.trans kx fun a z => .inl z)⟩
    · exact False.elim R
  cases g with
  | none =>
    unfold kretDec at hd
    split at hd
    · cases hd
      exact (ps_ret hc).weak fun D σ H ⟨w, R⟩ => key w R
    · contradiction
    · cases hd
  | some g' =>
    unfold kretDec at hd
    split at hd
    · contradiction
    · cases hd
      have hg : (isTst g' && okE S g' sc _) = true := hg
      rw [Bool.and_eq_true] at hg
      have hgt := (ev_ok (O := O) S g' X W sc B G _ C.toCtxOk hg.2).1
      refine (ps_ret (pe_and hgt (pe_one hc))).weak fun D σ H ⟨w, R⟩ => ?_
      have R : ResW (cfg X O) B H0 D (kretO (wcall S.F f as G) (asB (ev S.F g' G))) := R
      refine ⟨w.su, ?_⟩
      cases eg : ev S.F g' G with
      | no => rw [eg] at R; exact R
      | ex c fs => rw [eg] at R; exact False.elim R
      | ok a =>
        rw [eg] at R
        obtain ⟨fl, d⟩ := a
        intro v H1 s1 rv
        cases d with
        | bl gb =>
          refine ⟨gb, rv.bl, ?_⟩
          cases gb with
          | true => exact key (w.same s1) R
          | false => exact R H1 (w.same s1).kx
        | _ => exact False.elim R
    · cases hd
theorem clr_ps (C : CtxS S X O W sc xs) {e : IE} {st : Stmt} {o : Expr} (hd : clrDec st = some o) (h : okE S e sc o = true) (G : Ev) :
    PS X st (fun D σ H => Wk (cfg X O) B H0 G σ H ∧ ResW (cfg X O) B H0 D (clrW (fun G => .nx G) G (ev S.F e G))) := by
  unfold clrDec at hd
  split at hd
  · rename_i o' y apos cpos pos
    split at hd
    · rename_i hc
      cases hd
      simp only [Bool.and_eq_true, decide_eq_true_eq] at hc
      obtain ⟨⟨rfl, h2⟩, h3⟩ := hc
      have hE := (ev_ok (O := O) S e X W sc B G o C.toCtxOk h).1
      refine (ps_expr (pe_bm0 PySem.F.plainAttrs_list PySem.F.slot_list_clear PySem.F.type_list_clear mt_clear hE (attrBase h3) h2) rfl).weak fun D σ H ⟨w, R⟩ => ?_
      refine ⟨w.su, ?_⟩
      unfold clrW at R
      split at R
      · rename_i ds e1
        rw [e1]
        intro v H1 s1 rv
        split at R
        · exact False.elim R
        · rename_i hni
          have rv : Rep (cfg X O) (Zof B G σ) H1 (.lst ds) v := rv
          cases rv with
          | lst t r =>
            rename_i a vs
            rcases t with ⟨t1, t2⟩ | ⟨_, t⟩
            · exact ⟨.inl ⟨rfl, vs, .inl (.inl t1)⟩, a, vs, rfl, rfl, t1, R σ _ ((w.same s1).kill (KX.clear t1 t2))⟩
            · refine absurd (List.all_eq_true.mpr fun d hd => ?_) hni
              obtain ⟨i, hi⟩ := List.getElem?_of_mem hd
              obtain ⟨v, h1, h2⟩ := r.get hi
              obtain ⟨j, rfl⟩ := t.2 v (List.mem_of_getElem? h1)
              cases h2
              rfl
      · exact False.elim R
    · cases hd
  · cases hd
theorem ResW.seq {c : Cfg} {D : Ends} {f r : Ev → Out} {o : Out} (h : ResW c B H0 D (seqW r o)) : ResW c B H0 { D with nx := tW c B H0 r D } o := by
  cases o with
  | nx G => exact fun σ' H' w => ⟨G, w, h⟩
  | rt o d => cases o <;> cases d <;> exact h
  | _ => exact h
theorem seq_st {r : Ev → Out} {o : Out} : stO r o = seqW r (stO (fun G => .nx G) o) := by
  unfold stO
  split <;> rfl
theorem seq_kif {r : Ev → Out} {c : Option Bool} {G : Ev} {g : Rs Bool} : kifO r c G g = seqW r (kifO (fun G => .nx G) c G g) := by
  unfold kifO
  split
  · rfl
  · split <;> rfl
  · rfl
theorem seq_clr {r : Ev → Out} {G : Ev} {g : Rs (Fl × RA.D)} : clrW r G g = seqW r (clrW (fun G => .nx G) G g) := by
  unfold clrW
  split
  · split <;> rfl
  · rfl
theorem st_ps (C : CtxS S X O W sc xs) {s : IS} {st : Stmt} (h : okSt S xs sc s st = true) (G : Ev) :
    PS X st (fun D σ H => Wk (cfg X O) B H0 G σ H ∧ ResW (cfg X O) B H0 D (stO (fun G => .nx G) (exec S.F n s G))) := by
  refine (st_ok (O := O) (B := B) (n := n) S C s st h G).weak fun D σ H ⟨w, R⟩ => ⟨w.su, ?_⟩
  cases e : exec S.F n s G with
  | no => rw [e] at R; exact R
  | nx G' => rw [e] at R; exact fun σ' H' su st => R σ' H' (w.step su st)
  | bk G' => rw [e] at R; exact False.elim R
  | ct G' => rw [e] at R; exact False.elim R
  | ex G' c fs => rw [e] at R; exact False.elim R
  | rt o d =>
    rw [e] at R
    cases o with
    | true => exact False.elim R
    | false =>
      cases d with
      | bl b =>
        intro v H' ex rv
        have rv : Rep (cfg X O) B H' (.bl b) v := rv
        cases rv
        exact R H' (w.ext ex)
      | _ => exact False.elim R
theorem rng_ps (C : CtxS S X O W sc xs) {i m : Nat} {x y : Str} {k : Int} {bs : List Stmt} {st : Stmt} (hd : rngDec st = some (x, y, k, bs)) (hk : k = m) (hs : smallI k = true) (hb : okB S sc "range" y = true) (hn : okN S sc i x = true) {b : Ev → Out} (ih : PSs X bs (tW (cfg X O) B H0 b)) (G : Ev) :
    PS X st (fun D σ H => Wk (cfg X O) B H0 G σ H ∧ ResW (cfg X O) B H0 D (wloop b i m 0 G)) := by
  unfold rngDec at hd
  split at hd
  · cases hd
    obtain ⟨rfl, hg, hm, _, _⟩ := okB_of C.toCtxB hb
    obtain ⟨h1, h2⟩ := okN_of C hn
    have hs' := of_decide_eq_true hs
    subst hk
    refine (ps_for C.po C.calm (pi_range1 hg hm (pa_cons pe_int pa_nil rfl) rfl) (pg_name C.nd h1 h2 (C.fnL h2)) ih (fun _ => rfl)).weak fun D σ H ⟨w, R⟩ => ?_
    refine ⟨(m : Int), rfl, hs'.1, hs'.2, for_it walk_range (fun t σ' H' => ∃ G', Wk (cfg X O) B H0 G' σ' H' ∧ ResW (cfg X O) B H0 D (wloop b i (m - t) t G')) ⟨G, w, R⟩ (fun _ _ _ _ _ => trivial) ?_ ?_⟩
    · rintro t x σ' H' H'' hi ⟨G', w', R'⟩ ⟨rfl, rfl⟩
      rw [Int.toNat_natCast] at hi
      have e : m - t = (m - (t + 1)) + 1 := by omega
      rw [e] at R'
      unfold wloop at R'
      show gName i (V.int (0 + (t : Int))) σ' _ _
      rw [Int.zero_add]
      refine ⟨G'.set i (some (false, .int t)), w'.step (w'.su.set (.int _)) (Step.of (Same.refl _) fun a z => .inl (own_set z)), ?_⟩
      cases eb : b (G'.set i (some (false, .int t))) with
      | nx G2 => rw [eb] at R'; exact fun σ' H' w => ⟨G2, w, R'⟩
      | rt o d => rw [eb] at R'; cases o <;> cases d <;> exact R'
      | no => rw [eb] at R'; exact R'
      | bk _ => rw [eb] at R'; exact R'
      | ct _ => rw [eb] at R'; exact R'
      | ex _ _ _ => rw [eb] at R'; exact R'
    · rintro σ' H' ⟨G', w', R'⟩
      rw [Int.toNat_natCast, Nat.sub_self] at R'
      exact R' σ' H' w'
  · cases hd
end
/-! ### two errors at once -/
theorem forget_in {G : Ev} {i : Nat} {x : Bool × RA.D} : ∀ {is : List Nat}, i ∈ is → (forget is G)[i]? ≠ some (some x)
  | j :: is, h, e => by
    show False
    have e : ((forget is G).set j none)[i]? = some (some x) := e
    rw [List.getElem?_set] at e
    by_cases q : j = i
    · rw [if_pos q] at e
      split at e <;> cases e
    · rw [if_neg q] at e
      rcases List.mem_cons.mp h with z | z
      · exact q z.symm
      · exact forget_in z e
theorem noOwn_of {G : Ev} {σ : L2.St} (h : noOwn G = true) : ∀ a, ¬ Owned G σ a := fun a ⟨i, d, e, _⟩ => by
  unfold noOwn at h
  have := List.all_eq_true.mp h _ (List.mem_of_getElem? e)
  cases this
section
variable {c : Cfg} {B B2 Z : Addr → Prop} {H H1 : Hp}
theorem gAll_two : ∀ {is : List Nat} {ds : List RA.D} {vs : List V} {G G2 : Ev} {σ : L2.St} {Q : L2.St → Hp → Prop}, is.length = ds.length → Reps c Z H ds vs → (∀ b, Zof B G σ b → Z b) → (∀ b, Zof B2 G2 σ b → Z b) → StOk c B G σ H → StOk c B2 G2 σ H →
    (∀ σ', StOk c B (setAll is ds G) σ' H → StOk c B2 (setAll is ds G2) σ' H → (∀ b, Owned (setAll is ds G) σ' b → Owned G σ b) → (∀ b, Owned (setAll is ds G2) σ' b → Owned G2 σ b) → tgAt (.tup is) σ σ' → Q σ' H) → gAll is vs σ H Q
  | [], [], _, G, G2, σ, Q, _, .nil, _, _, Su, Su2, q => ⟨rfl, q σ Su Su2 (fun _ h => h) (fun _ h => h) ⟨rfl, fun _ _ => rfl⟩⟩
  | i :: is, d :: ds, v :: vs, G, G2, σ, Q, hl, .cons r t, hz, hz2, Su, Su2, q => by
    refine ⟨v, vs, rfl, gAll_two (is := is) (ds := ds) (G := G.set i (some (false, d))) (G2 := G2.set i (some (false, d))) (by simpa using hl) t (fun b h => hz b (h.imp id own_set)) (fun b h => hz2 b (h.imp id own_set)) (Su.set (r.less hz)) (Su2.set (r.less hz2)) fun σ' k1 k2 lo lo2 at' => q σ' k1 k2 (fun b h => own_set (lo b h)) (fun b h => own_set (lo2 b h)) ⟨by rw [at'.1, List.length_set], fun j hj => ?_⟩⟩
    have hj' : j ≠ i ∧ j ∉ is := by simpa [tgSlots] using hj
    rw [at'.2 j hj'.2, List.getElem?_set_ne (fun z => hj'.1 z.symm)]
  | [], _ :: _, _, _, _, _, _, hl, _, _, _, _, _, _ => by cases hl
  | _ :: _, [], _, _, _, _, _, hl, _, _, _, _, _, _ => by cases hl
theorem gTg_two {is : List Nat} {d : RA.D} {v : V} {G G1 G2 N1 : Ev} {σ : L2.St} {Q : L2.St → Hp → Prop} (hb : bindT (.tup is) d G = some G1) (hb2 : bindT (.tup is) d G2 = some N1) (r : Rep c Z H d v) (hz : ∀ b, Zof B G σ b → Z b) (hz2 : ∀ b, Zof B2 G2 σ b → Z b) (Su : StOk c B G σ H) (Su2 : StOk c B2 G2 σ H)
    (q : ∀ σ', StOk c B G1 σ' H → StOk c B2 N1 σ' H → (∀ b, Owned G1 σ' b → Owned G σ b) → (∀ b, Owned N1 σ' b → Owned G2 σ b) → tgAt (.tup is) σ σ' → Q σ' H) : gTg c.K (.tup is) v σ H Q := by
  cases d <;> simp only [bindT] at hb hb2 <;> first | (cases hb; done) | skip
  rename_i ds
  split at hb
  · rename_i hl
    rw [if_pos hl] at hb2
    cases hb; cases hb2
    cases r with
    | tup t r => exact ⟨_, _, rfl, t.sq, by rw [← r.length]; exact hl.symm, gAll_two hl r hz hz2 Su Su2 q⟩
  · cases hb
/-- of what leans on no list -/
theorem StOk.lists {G : Ev} {σ : L2.St} (Su : StOk c B G σ H) (no : ∀ a, ¬ Owned G σ a) : StOk c (fun a => B a ∨ ∃ vs, H a = some (.lst vs)) (killG G) σ H := by
  have no' : ∀ a, ¬ Owned (killG G) σ a := fun a z => no a (own_kill z)
  refine ⟨by rw [killG, List.length_map]; exact Su.len, fun a h => h.elim (Su.tr a) fun ⟨vs, e⟩ => (by rw [e]; intro z; cases z), Su.tab, fun a h => absurd h (no' a), fun i j a h1 h2 => absurd ⟨i, h1⟩ (no' a), fun i d e => ?_, fun i d e => ?_⟩
  · obtain ⟨e1, e2⟩ := kill_get e
    obtain ⟨v, h1, h2⟩ := Su.val i d e1
    refine ⟨v, h1, h2.regrow (fun b z => ?_) e2⟩
    rcases z with (z | ⟨vs, z⟩) | z
    · exact .inl (.inl z)
    · exact .inr ⟨_, z, fun _ q => (nomatch q), fun _ _ q => (nomatch q)⟩
    · exact absurd z (no' b)
  · obtain ⟨e1, e2⟩ := kill_get e
    obtain ⟨a, h1, _⟩ := Su.own i d e1
    exact absurd ⟨i, d, e1, h1⟩ (no a)
/-- of what stood before -/
theorem StOk.old {G : Ev} {σ σ' : L2.St} {is : List Nat} (Su : StOk c B G σ H) (no : ∀ a, ¬ Owned G σ a) (s : Same H H1) (at' : tgAt (.tup is) σ σ') : StOk c (fun a => B a ∨ (H a = none ∧ H1 a ≠ none)) (forget is G) σ' H1 := by
  obtain ⟨k1, k2⟩ := Su.forgot is
  have no' : ∀ a, ¬ Owned (forget is G) σ' a := fun a ⟨i, d, e, h⟩ => by
    have hi : i ∉ is := fun z => forget_in z e
    obtain ⟨w, h1, _⟩ := k1.own i d e
    exact no w (k2 w ⟨i, d, e, h1⟩)
  refine ⟨by rw [k1.len, at'.1], fun a h => h.elim (fun z => s.there a (Su.tr a z)) fun z => z.2, s.tab Su.tab, fun a h => absurd h (no' a), fun i j a h1 h2 => absurd ⟨i, h1⟩ (no' a), fun i d e => ?_, fun i d e => ?_⟩
  · have hi : i ∉ is := fun z => forget_in z e
    obtain ⟨v, h1, h2⟩ := k1.val i d e
    refine ⟨v, by rw [at'.2 i hi]; exact h1, (h2.grow fun b z => ?_).same s⟩
    rcases z with (z | z) | z
    · exact .inl (.inl z)
    · exact .inr z.1
    · exact absurd z (no' b)
  · obtain ⟨w, h1, _⟩ := k1.own i d e
    exact absurd (k2 w ⟨i, d, e, h1⟩) (no w)
theorem StOk.moreN {G : Ev} {σ : L2.St} (Su : StOk c B G σ H) (no : ∀ a, ¬ Owned G σ a) (s : Same H H1) : StOk c (fun a => B a ∨ (H a = none ∧ H1 a ≠ none)) G σ H1 :=
  ⟨Su.len, fun a h => h.elim (fun z => s.there a (Su.tr a z)) fun z => z.2, s.tab Su.tab, fun a h => absurd h (no a), fun i j a h1 h2 => absurd ⟨i, h1⟩ (no a), fun i d e => by
    obtain ⟨v, h1, h2⟩ := Su.val i d e
    refine ⟨v, h1, (h2.grow fun b z => ?_).same s⟩
    rcases z with (z | z) | z
    · exact .inl (.inl z)
    · exact .inr z.1
    · exact absurd z (no b), fun i d e => by
    obtain ⟨w, h1, _⟩ := Su.own i d e
    exact absurd ⟨i, d, e, h1⟩ (no w)⟩
/-- between the two statements that bind, and the first call -/
structure TwoS (c : Cfg) (B : Addr → Prop) (H0 : Hp) (is : List Nat) (G G1 N1 : Ev) (σ : L2.St) (H : Hp) : Prop where
  w : Wk c B H0 G1 σ H
  ex : ∃ B2 B1 : Addr → Prop, StOk c B2 N1 σ H ∧ StOk c B1 (forget is G) σ H ∧ (∀ a, B a → B1 a) ∧ (∀ a, B a → B2 a) ∧ (∀ a vs, H a = some (.lst vs) → B2 a ∨ B1 a) ∧ (∀ a, ¬ Owned N1 σ a) ∧ ∀ a, ¬ Owned (forget is G) σ a
theorem TwoS.same {H0 : Hp} {is : List Nat} {G G1 N1 : Ev} {σ : L2.St} (t : TwoS c B H0 is G G1 N1 σ H) (s : Same H H1) : TwoS c B H0 is G G1 N1 σ H1 := by
  obtain ⟨w, B2, B1, h1, h2, h3, h4, h5, h6, h7⟩ := t
  refine ⟨w.same s, B2, _, h1.same s, h2.moreN h7 s, fun a z => .inl (h3 a z), h4, fun a vs e => ?_, h6, h7⟩
  by_cases q : H a = none
  · exact .inr (.inr ⟨q, by rw [e]; intro z; cases z⟩)
  · obtain ⟨o, q⟩ := Option.ne_none_iff_exists'.mp q
    have := s.noT q e trivial
    rw [this] at q
    exact (h5 a vs q).imp id .inl
/-- behind the first call -/
structure NwS (c : Cfg) (B : Addr → Prop) (H0 : Hp) (N1 : Ev) (σ : L2.St) (H : Hp) : Prop where
  kx : KX B H0 H
  ex : ∃ B2 : Addr → Prop, StOk c B2 N1 σ H ∧ (∀ a, B a → B2 a) ∧ ∀ a, ¬ Owned N1 σ a
theorem StOk.lessB {G : Ev} {σ : L2.St} (Su : StOk c B2 G σ H) (h : ∀ a, B a → B2 a) : StOk c B G σ H :=
  ⟨Su.len, fun a z => Su.tr a (h a z), Su.tab, fun a o z => Su.apart a o (h a z), Su.uniq, fun i d e => by
    obtain ⟨v, h1, h2⟩ := Su.val i d e
    exact ⟨v, h1, h2.less fun b z => z.imp (h b) id⟩, fun i d e => by
    obtain ⟨w, h1, h2⟩ := Su.own i d e
    exact ⟨w, h1, h2.grow fun b z => .inl (z.imp (h b) id)⟩⟩
theorem StOk.extN {G : Ev} {σ : L2.St} (Su : StOk c B G σ H) (no : ∀ a, ¬ Owned G σ a) (e : Ext B H H1) (al : ∀ a, H a ≠ none → H1 a ≠ none) : StOk c B G σ H1 :=
  ⟨Su.len, fun a z => al a (Su.tr a z), e.tab Su.tab, Su.apart, Su.uniq, fun i d e' => by
    obtain ⟨v, h1, h2⟩ := Su.val i d e'
    exact ⟨v, h1, h2.mono (e.less fun b q => .inl q)⟩, fun i d e' => by
    obtain ⟨w, h1, _⟩ := Su.own i d e'
    exact absurd ⟨i, d, e', h1⟩ (no w)⟩
end
section
variable {O : OpT} {S : Stat} {X : Cx} {W : WX} {sc : Scope} {xs : List (Nat × Str)} {B : Addr → Prop} {n : Nat} {H0 : Hp} {ks : List Nat}
theorem two_1 (C : CtxS S X O W sc xs) {is : List Nat} {e : IE} {es : List Expr} {v : Expr} {j : Nat} {p pos : Pos} (h : (okTs S (stF sc) is es && decide (is.length = es.length) && noComp v && okE S e sc v) = true) {G G1 N1 : Ev} {fl : Fl} {d : RA.D} (he : ev S.F e (killG G) = .ok (fl, d)) (hf : fl ≠ .tmp) (no : noOwn G = true) (hb : bindT (.tup is) d G = some G1) (hb2 : bindT (.tup is) d (killG G) = some N1) :
    PS X (.Assign [.Tuple es j p] v pos) (fun D σ H => Wk (cfg X O) B H0 G σ H ∧ ∀ σ' H', TwoS (cfg X O) B H0 is G G1 N1 σ' H' → D.nx σ' H') := by
  simp only [Bool.and_eq_true, decide_eq_true_eq] at h
  obtain ⟨⟨⟨h1, h2⟩, h3⟩, h4⟩ := h
  obtain ⟨k1, k2⟩ := noComp_sw (env := X.env) h3
  have hg : PG X (.Tuple es j p) (gTg X.K (.tup is)) := pg_tg (S := S) (sl := stF sc) C.N C.nd C.locs C.calm (by simp only [okT, h1, Bool.true_and, decide_eq_true_eq]; exact h2)
  refine (ps_asg (PE.any fun B2 : Addr → Prop => (ev_ok (O := O) S e X W sc B2 (killG G) v C.toCtxOk h4).1) hg (k2 _ _).1 (k2 [.Tuple es j p] 0).2 rfl).weak fun D σ H ⟨w, R⟩ => ?_
  have no1 : ∀ a, ¬ Owned G σ a := noOwn_of no
  refine ⟨fun a => B a ∨ ∃ vs, H a = some (.lst vs), w.su.lists no1, ?_⟩
  rw [he]
  intro x H1 s1 rv
  have su2 := w.su.lists no1
  refine gTg_two (c := cfg X O) (B := B) hb hb2 (rv.keep hf su2.ztr) (fun b z => z.elim (fun q => .inl (.inl q)) fun q => absurd q (no1 b)) (fun b z => z) (w.su.same s1) (su2.same s1) fun σ' q1 q2 lo lo2 at' => ?_
  refine R σ' H1 ⟨w.step q1 (Step.of s1 fun a z => .inl (lo a z)), _, _, q2, w.su.old no1 s1 at', fun a z => .inl z, fun a z => .inl z, fun a vs e => ?_, fun a z => no1 a (own_kill (lo2 a z)), ?_⟩
  · by_cases q : H a = none
    · exact .inr (.inr ⟨q, by rw [e]; intro z; cases z⟩)
    · obtain ⟨o, q⟩ := Option.ne_none_iff_exists'.mp q
      have := s1.noT q e trivial
      rw [this] at q
      exact .inl (.inr ⟨vs, q⟩)
  · rintro a ⟨i, d', e', hh⟩
    obtain ⟨k1, k2⟩ := w.su.forgot is
    obtain ⟨w', g1, _⟩ := k1.own i d' e'
    exact no1 w' (k2 w' ⟨i, d', e', g1⟩)
theorem two_2 (C : CtxS S X O W sc xs) {is : List Nat} {t : IE} {a : IS} {st : Stmt} {tx : Expr} {as : List Stmt} (hd : ifDec st = some (tx, as)) (ht : isTst t = true) (h : okE S t sc tx = true) (ha : okSts S xs sc a as = true) {G G1 N1 : Ev} :
    PS X st (fun D σ H => TwoS (cfg X O) B H0 is G G1 N1 σ H ∧ (match asB (ev S.F t G1) with | .ok true => ResW (cfg X O) B H0 D (stO (fun _ => .no) (exec S.F n a G1)) | .ok false => ∀ σ' H', TwoS (cfg X O) B H0 is G G1 N1 σ' H' → D.nx σ' H' | _ => False)) := by
  unfold ifDec at hd
  split at hd
  · cases hd
    refine (ps_if ((ev_ok (O := O) S t X W sc B G1 tx C.toCtxOk h).2 ht) (sts_ok (O := O) (B := B) (n := n) S C a as ha) pss_nil).weak fun D σ H ⟨w, R⟩ => ⟨w.w.su, ?_⟩
    cases e : asB (ev S.F t G1) with
    | no => rw [e] at R; exact R
    | ex c fs => rw [e] at R; exact False.elim R
    | ok b =>
      rw [e] at R
      intro H1 s1
      have w1 := w.same s1
      cases b with
      | false => exact R σ H1 w1
      | true =>
        refine ⟨G1, w1.w.su, ?_⟩
        have R : ResW (cfg X O) B H0 D (stO (fun _ => .no) (exec S.F n a G1)) := R
        cases ea : exec S.F n a G1 with
        | rt o d =>
          rw [ea] at R
          cases o with
          | true => exact False.elim R
          | false =>
            cases d with
            | bl b =>
              intro v H' ex rv
              have rv : Rep (cfg X O) B H' (.bl b) v := rv
              cases rv
              exact R H' (w1.w.ext ex)
            | _ => exact False.elim R
        | _ => rw [ea] at R; exact False.elim R
  · cases hd
theorem two_3 (C : CtxS S X O W sc xs) (hks : ∀ f, ks.contains f = true → FOkK (cfg X O) S.nm S.k f (S.F f)) {is : List Nat} {g : IE} {f : Nat} {as : IEs} {st : Stmt} {gx e : Expr} (hd : kifDec (some g) st = some (some gx, e)) (hgt : isTst g = true) (hg : okE S g sc gx = true) (h : okC S ks sc f as e = true) {G G1 N1 : Ev} :
    PS X st (fun D σ H => TwoS (cfg X O) B H0 is G G1 N1 σ H ∧ (match asB (ev S.F g G1), wcall S.F f as (forget is G) with
      | .ok true, _ => ∀ H', KX B H0 H' → D.rt (.bl false) H'
      | .ok false, some false => ∀ H', KX B H0 H' → D.rt (.bl false) H'
      | .ok false, some true => ∀ σ' H', NwS (cfg X O) B H0 N1 σ' H' → D.nx σ' H'
      | _, _ => False)) := by
  have hc := PE.any fun B1 : Addr → Prop => pe_kcall (B := B1) C.toCtxOk hks h (forget is G)
  have hcl : ∀ whole, isTrue e X.env whole = (do let v ← whole; standAt e.pos; holding [v] (truthy v)) := by
    obtain ⟨x, p, es, pos, rfl, _⟩ := okC_of h
    intro _; rfl
  have ht := pt_val hc hcl
  unfold kifDec at hd
  split at hd
  · contradiction
  · cases hd
    refine (ps_if (pw_or ((ev_ok (O := O) S g X W sc B G1 _ C.toCtxOk hg).2 hgt) (pw_or1 (pt_not ht))).pt pss_retF pss_nil).weak fun D σ H ⟨w, R⟩ => ⟨w.w.su, ?_⟩
    cases eg : asB (ev S.F g G1) with
    | no => rw [eg] at R; exact False.elim R
    | ex c fs => rw [eg] at R; exact False.elim R
    | ok gb =>
      rw [eg] at R
      intro H1 s1
      have w1 := w.same s1
      cases gb with
      | true => exact R H1 w1.w.kx
      | false =>
        obtain ⟨B2, B1, q1, q2, q3, q4, q5, q6, q7⟩ := w1.ex
        cases ec : wcall S.F f as (forget is G) with
        | none => rw [ec] at R; exact False.elim R
        | some b =>
          rw [ec] at R
          refine ⟨B1, b, q2, ec, fun H' kx => ⟨b, rfl, ?_⟩⟩
          have kk : KX B H0 H' := w1.w.kx.trans kx fun a z => .inl (q3 a z)
          cases b with
          | false => exact R H' kk
          | true =>
            refine R σ H' ⟨kk, B2, q1.extN q6 ⟨fun a o nz e nt => ?_, fun a ps _ h => kx.tbl a ps h, kx.tab, fun a o u e => kx.st a _ (.inr fun vs z => nomatch z) e trivial⟩ kx.al, q4, q6⟩
            by_cases hl : ∃ vs, o = HO.lst vs
            · obtain ⟨vs, rfl⟩ := hl
              exact kx.st a _ (.inl (.inl ((q5 a vs e).elim (fun z => absurd z nz) id))) e nt
            · exact kx.st a o (.inr fun vs z => hl ⟨vs, z⟩) e nt
  · cases hd
theorem two_4 (C : CtxS S X O W sc xs) (hks : ∀ f, ks.contains f = true → FOkK (cfg X O) S.nm S.k f (S.F f)) {f : Nat} {as : IEs} {st : Stmt} {gx : Option Expr} {e : Expr} (hd : kifDec none st = some (gx, e)) (h : okC S ks sc f as e = true) {N1 : Ev} :
    PS X st (fun D σ H => NwS (cfg X O) B H0 N1 σ H ∧ ResW (cfg X O) B H0 D (kifO (fun G => .nx G) (wcall S.F f as N1) N1 (.ok false))) := by
  have hc := PE.any fun B1 : Addr → Prop => pe_kcall (B := B1) C.toCtxOk hks h N1
  have hcl : ∀ whole, isTrue e X.env whole = (do let v ← whole; standAt e.pos; holding [v] (truthy v)) := by
    obtain ⟨x, p, es, pos, rfl, _⟩ := okC_of h
    intro _; rfl
  have ht := pt_val hc hcl
  unfold kifDec at hd
  split at hd
  · cases hd
    refine (ps_if (pt_not ht) pss_retF pss_nil).weak fun D σ H ⟨⟨kk, B2, q1, q2, q3⟩, R⟩ => ?_
    unfold kifO at R
    dsimp only at R
    split at R
    · rename_i e1
      exact ⟨B2, true, q1, e1, fun H' kx => ⟨true, rfl, R σ H' ⟨(q1.kill kx).lessB q2, kk.trans kx fun a z => .inl (q2 a z), fun a z => absurd (own_kill z) (q3 a)⟩⟩⟩
    · rename_i e1
      exact ⟨B2, false, q1, e1, fun H' kx => ⟨false, rfl, R H' (kk.trans kx fun a z => .inl (q2 a z))⟩⟩
    · exact False.elim R
  · contradiction
  · cases hd
theorem two_pss (C : CtxS S X O W sc xs) (hks : ∀ f, ks.contains f = true → FOkK (cfg X O) S.nm S.k f (S.F f)) {is : List Nat} {e t g : IE} {a : IS} {f : Nat} {as1 as2 : IEs} {r : Ev → Out} {s1 s2 s3 s4 : Stmt} {sts : List Stmt}
    (k1 : (match unpDec s1 with | some (es, v) => okTs S (stF sc) is es && decide (is.length = es.length) && noComp v && okE S e sc v | none => false) = true)
    (k2 : (match ifDec s2 with | some (tx, as) => isTst t && okE S t sc tx && okSts S xs sc a as | none => false) = true)
    (k3 : (match kifDec (some g) s3 with | some (some gx, ex) => isTst g && okE S g sc gx && okC S ks sc f as1 ex | _ => false) = true)
    (k4 : (match kifDec none s4 with | some (_, ex) => okC S ks sc f as2 ex | none => false) = true) (ih : PSs X sts (tW (cfg X O) B H0 r)) (G : Ev) :
    PSs X (s1 :: s2 :: s3 :: s4 :: sts) (fun D σ H => Wk (cfg X O) B H0 G σ H ∧ ResW (cfg X O) B H0 D (twoO S.F n is t a g f as1 as2 r G (ev S.F e (killG G)))) := by
  cases he : ev S.F e (killG G) with
  | no => exact PSs.never fun σ H D q => q.2
  | ex c fs => exact PSs.never fun σ H D q => q.2
  | ok y =>
    obtain ⟨fl, d⟩ := y
    by_cases hn : fl = .tmp ∨ noOwn G = false
    · exact PSs.never fun σ H D q => by
        have q := q.2
        unfold twoO at q
        dsimp only at q
        rw [if_pos hn] at q; exact q
    · have e0 : twoO S.F n is t a g f as1 as2 r G (.ok (fl, d)) = (match bindT (.tup is) d G, bindT (.tup is) d (killG G) with
          | some G1, some N1 => twoT S.F n is a f as1 as2 r G G1 N1 (asB (ev S.F g G1)) (asB (ev S.F t G1))
          | _, _ => .no) := if_neg hn
      rw [e0]
      have hf : fl ≠ .tmp := fun z => hn (.inl z)
      have no : noOwn G = true := by
        cases q : noOwn G with
        | true => rfl
        | false => exact absurd (.inr q) hn
      cases hb : bindT (.tup is) d G with
      | none => exact PSs.never fun σ H D q => q.2
      | some G1 =>
        cases hb2 : bindT (.tup is) d (killG G) with
        | none => exact PSs.never fun σ H D q => q.2
        | some N1 =>
          split at k1
          · rename_i es v hu
            unfold unpDec at hu
            split at hu
            · cases hu
              split at k2
              · rename_i tx as hi
                simp only [Bool.and_eq_true] at k2
                split at k3
                · rename_i gx ex hk3
                  simp only [Bool.and_eq_true] at k3
                  split at k4
                  · rename_i gx4 ex4 hk4
                    refine (pss_cons (two_1 C k1 he hf no hb hb2) (pss_cons (two_2 (B := B) (H0 := H0) (is := is) (G := G) (G1 := G1) (N1 := N1) (n := n) C hi k2.1.1 k2.1.2 k2.2) (pss_cons (two_3 (B := B) (H0 := H0) (is := is) (G := G) (G1 := G1) (N1 := N1) C hks hk3 k3.1.1 k3.1.2 k3.2) (pss_cons (two_4 (B := B) (H0 := H0) (N1 := N1) C hks hk4 k4) ih)))).weak fun D σ H ⟨w, R⟩ => ⟨w, fun σ1 H1 w1 => ⟨w1, ?_⟩⟩
                    have R : ResW (cfg X O) B H0 D (twoT S.F n is a f as1 as2 r G G1 N1 (asB (ev S.F g G1)) (asB (ev S.F t G1))) := R
                    cases et : asB (ev S.F t G1) with
                    | no => rw [et] at R; exact R
                    | ex c fs => rw [et] at R; exact R
                    | ok tb =>
                      rw [et] at R
                      cases tb with
                      | true =>
                        have R : ResW (cfg X O) B H0 D (stO (fun _ => .no) (exec S.F n a G1)) := R
                        show ResW _ _ _ _ (stO (fun _ => .no) (exec S.F n a G1))
                        cases ea : exec S.F n a G1 with
                        | rt o d => rw [ea] at R; cases o <;> cases d <;> exact R
                        | _ => rw [ea] at R; exact R
                      | false =>
                        refine fun σ2 H2 w2 => ⟨w2, ?_⟩
                        have R : ResW (cfg X O) B H0 D (kifO (fun _ => kifO r (wcall S.F f as2 N1) N1 (.ok false)) (wcall S.F f as1 (forget is G)) G1 (asB (ev S.F g G1))) := R
                        cases eg : asB (ev S.F g G1) with
                        | no => rw [eg] at R; exact R
                        | ex c fs => rw [eg] at R; exact R
                        | ok gb =>
                          rw [eg] at R
                          cases gb with
                          | true => exact R
                          | false =>
                            cases ec : wcall S.F f as1 (forget is G) with
                            | none => rw [ec] at R; exact R
                            | some b =>
                              rw [ec] at R
                              cases b with
                              | false => exact R
                              | true =>
                                refine fun σ3 H3 w3 => ⟨w3, ?_⟩
                                exact ResW.seq (f := fun _ => .no) (by rw [← seq_kif]; exact R)
                  · cases k4
                · cases k3
              · cases k2
            · cases hu
          · cases k1
end
/-! ### lists that are handed out, cleared by a loop -/
def IL (H : Hp) (a : Addr) : Prop := ∃ vs : List V, H a = some (.lst vs) ∧ vs ≠ [] ∧ ∀ v ∈ vs, ∃ k, v = .int k
theorem allInt_of {c : Cfg} {B : Addr → Prop} {H : Hp} {ds : List RA.D} {vs : List V} (r : Reps c B H ds vs) (h : ∀ v ∈ vs, ∃ k, v = V.int k) : ds.all isIntD = true := by
  refine List.all_eq_true.mpr fun d hd => ?_
  obtain ⟨i, hi⟩ := List.getElem?_of_mem hd
  obtain ⟨v, h1, h2⟩ := r.get hi
  obtain ⟨j, rfl⟩ := h v (List.mem_of_getElem? h1)
  cases h2
  rfl
theorem ints_of {c : Cfg} {B : Addr → Prop} {H : Hp} {ds : List RA.D} {vs : List V} (r : Reps c B H ds vs) (h : ds.all isIntD = true) : ∀ v ∈ vs, ∃ k, v = V.int k := by
  intro v hv
  obtain ⟨i, hi⟩ := List.getElem?_of_mem hv
  obtain ⟨d, h1, h2⟩ := r.getV hi
  have := List.all_eq_true.mp h d (List.mem_of_getElem? h1)
  cases d <;> first | cases this | skip
  cases h2
  exact ⟨_, rfl⟩
section
variable {c : Cfg} {B Z : Addr → Prop} {H : Hp}
mutual
theorem Rep.ups (g : ∀ b, Z b → B b ∨ IL H b) : ∀ {d : RA.D} {v : V}, noIL d = true → Rep c B H d v → Rep c Z H d v
  | _, _, _, .non => .non
  | _, _, _, .bl b => .bl b
  | _, _, _, .int i => .int i
  | _, _, _, .str s => .str s
  | _, _, h, .tup t r => .tup (t.imp (fun ⟨z1, z2⟩ => ⟨z1, fun q => (g _ q).elim z2 fun ⟨vs, e, _⟩ => by rcases z1 with z1 | ⟨o, z1⟩ <;> (rw [z1] at e; cases e)⟩) id) (Reps.ups g (by simpa only [noIL] using h) r)
  | _, _, h, .lst t r => by
    simp only [noIL, Bool.and_eq_true, Bool.not_eq_true'] at h
    refine .lst ?_ (Reps.ups g h.2 r)
    rcases t with ⟨e1, z⟩ | ⟨_, _, hi⟩
    · refine .inl ⟨e1, fun q => (g _ q).elim z fun ⟨vs, e, _, hi⟩ => ?_⟩
      rw [e1] at e; cases e
      rw [allInt_of r hi] at h; cases h.1
    · rw [allInt_of r hi] at h; cases h.1
  | _, _, h, .dctK _ _ _ => by simp [noIL] at h
  | _, _, h, .dctT _ _ _ => by simp [noIL] at h
  | _, _, h, .opq _ _ => by simp [noIL] at h
theorem Reps.ups (g : ∀ b, Z b → B b ∨ IL H b) : ∀ {ds : List RA.D} {vs : List V}, noILs ds = true → Reps c B H ds vs → Reps c Z H ds vs
  | _, _, _, .nil => .nil
  | _, _, h, .cons r t => by
    simp only [noILs, Bool.and_eq_true] at h
    exact .cons (r.ups g h.1) (t.ups g h.2)
end
end
theorem killI_get {G : Ev} {i : Nat} {x : Bool × RA.D} (h : (killI G)[i]? = some (some x)) : G[i]? = some (some x) ∧ x.1 = false ∧ noIL x.2 = true := by
  unfold killI at h
  rw [List.getElem?_map] at h
  cases e : G[i]? with
  | none => rw [e] at h; cases h
  | some y =>
    rw [e] at h
    cases y with
    | none => cases h
    | some y =>
      obtain ⟨b, d⟩ := y
      cases b with
      | true => cases h
      | false =>
        have h : some (if noIL d = true then some (false, d) else none) = some (some x) := h
        split at h
        · cases h; exact ⟨rfl, rfl, by assumption⟩
        · cases h
theorem killI_own {G : Ev} {σ : L2.St} (a : Addr) : ¬ Owned (killI G) σ a := fun ⟨i, d, e, _⟩ => by
  have := (killI_get e).2.1
  cases this
theorem setN_get {G : Ev} {i j : Nat} {x : Bool × RA.D} (h : (G.set j none)[i]? = some (some x)) : G[i]? = some (some x) ∧ i ≠ j := by
  rw [List.getElem?_set] at h
  split at h
  · split at h <;> cases h
  · exact ⟨h, fun z => by subst z; contradiction⟩
section
variable {c : Cfg} {B B2 : Addr → Prop} {H H1 : Hp} {G : Ev} {σ : L2.St}
theorem StOk.ups (Su : StOk c B G σ H) (no : ∀ a, ¬ Owned G σ a) (j : Nat) : StOk c (fun a => B a ∨ IL H a) (killI (G.set j none)) σ H := by
  refine ⟨by rw [killI, List.length_map, List.length_set]; exact Su.len, fun a h => h.elim (Su.tr a) fun ⟨vs, e, _⟩ => (by rw [e]; intro z; cases z), Su.tab, fun a h => absurd h (killI_own a), fun i k a h1 h2 => absurd ⟨i, h1⟩ (killI_own a), fun i d e => ?_, fun i d e => ?_⟩
  · obtain ⟨e1, _, e2⟩ := killI_get e
    obtain ⟨v, h1, h2⟩ := Su.val i d (setN_get e1).1
    refine ⟨v, h1, h2.ups (fun b z => ?_) e2⟩
    rcases z with (z | z) | z
    · exact .inl (.inl z)
    · exact .inr z
    · exact absurd z (killI_own b)
  · have := (killI_get e).2.1
    cases this
/-- a slot of which nothing is told -/
theorem StOk.junk (Su : StOk c B G σ H) (no : ∀ a, ¬ Owned G σ a) {k : Nat} (v : V) (hk : ∀ x, G[k]? ≠ some (some x)) : StOk c B G (σ.set k (some v)) H ∧ ∀ a, ¬ Owned G (σ.set k (some v)) a := by
  have g : ∀ i x, G[i]? = some (some x) → (σ.set k (some v))[i]? = σ[i]? := fun i x e => by
    refine List.getElem?_set_ne fun z => ?_
    subst z
    exact hk x e
  have no2 : ∀ a, ¬ Owned G (σ.set k (some v)) a := fun a ⟨i, d, e, h⟩ => no a ⟨i, d, e, by rw [← g i _ e]; exact h⟩
  refine ⟨⟨by rw [List.length_set]; exact Su.len, Su.tr, Su.tab, fun a h => absurd h (no2 a), fun i j a h1 h2 => absurd ⟨i, h1⟩ (no2 a), fun i d e => ?_, fun i d e => ?_⟩, no2⟩
  · obtain ⟨w, h1, h2⟩ := Su.val i d e
    exact ⟨w, by rw [g i _ e]; exact h1, h2.less fun b z => z.elim .inl fun q => absurd q (no2 b)⟩
  · obtain ⟨w, h1, _⟩ := Su.own i d e
    exact absurd ⟨i, d, e, h1⟩ (no w)
/-- the list that is walked -/
def ToldAt (K : PySem.W.Frag) (B B2 : Addr → Prop) (H : Hp) (a : Addr) : Prop := ∃ ts : List V, H a = some (.lst ts) ∧ ¬ B2 a ∧ ∀ (i : Nat) (v : V), ts[i]? = some v → ∃ (t m : Addr) (x : V), v = .ref t ∧ TupAt K B2 H t [x, .ref m] ∧ B2 m ∧ ¬ B m ∧ ∃ vs, H m = some (.lst vs)
theorem ToldAt.mk {ds : List RA.D} {a : Addr} (hs : ¬ c.scr) (hp : ds.all pairIL = true) (r : Rep c B H (.lst ds) (.ref a)) : ToldAt c.K B (fun a => B a ∨ IL H a) H a := by
  cases r with
  | lst t r =>
    rcases t with ⟨e1, z⟩ | ⟨_, q, _⟩
    · rename_i ts
      refine ⟨ts, e1, fun q => q.elim z fun ⟨vs, e, ne, hi⟩ => ?_, fun i v hv => ?_⟩
      · rw [e1] at e; cases e
        cases ts with
        | nil => exact ne rfl
        | cons v ts =>
          obtain ⟨k, rfl⟩ := hi v (List.mem_cons_self ..)
          obtain ⟨d, h1, h2⟩ := r.getV (i := 0) rfl
          have := List.all_eq_true.mp hp d (List.mem_of_getElem? h1)
          cases h2
          cases this
      · obtain ⟨d, h1, h2⟩ := r.getV hv
        have := List.all_eq_true.mp hp d (List.mem_of_getElem? h1)
        unfold pairIL at this
        split at this
        · rename_i k d
          unfold isIL at this
          split at this
          · rename_i x xs
            cases h2 with
            | tup t2 r2 =>
              rcases r2 with _ | ⟨q1, _ | ⟨q2, _ | _⟩⟩
              cases q2 with
              | lst t3 r3 =>
                rename_i m vs
                rcases t3 with ⟨e3, z3⟩ | ⟨_, q, _⟩
                · have ne : vs ≠ [] := fun z => by subst z; cases r3
                  refine ⟨_, m, _, rfl, t2.imp (fun z => ⟨z.1, fun q => q.elim z.2 fun ⟨us, e, _⟩ => by rcases z.1 with z1 | ⟨o, z1⟩ <;> (rw [z1] at e; cases e)⟩) id, .inr ⟨_, e3, ne, ints_of r3 this⟩, z3, _, e3⟩
                · exact absurd q hs
          · cases this
        · cases this
    · exact absurd q hs
theorem ToldAt.ext {K : PySem.W.Frag} {a : Addr} (t : ToldAt K B B2 H a) (e : Ext B2 H H1) (h : ∀ m vs, H m = some (.lst vs) → ∃ us, H1 m = some (.lst us)) : ToldAt K B B2 H1 a := by
  obtain ⟨ts, h1, h2, h3⟩ := t
  refine ⟨ts, e.keep _ _ h2 h1 trivial, h2, fun i v hv => ?_⟩
  obtain ⟨t, m, x, rfl, k2, k3, k4, vs, k5⟩ := h3 i v hv
  exact ⟨t, m, x, rfl, k2.mono e, k3, k4, h m vs k5⟩
theorem ToldAt.same {K : PySem.W.Frag} {a : Addr} (t : ToldAt K B B2 H a) (s : Same H H1) : ToldAt K B B2 H1 a := t.ext (Same.ext s) fun m vs e => ⟨vs, s.keep _ _ e trivial⟩
/-- between -/
structure CleS (c : Cfg) (B : Addr → Prop) (H0 : Hp) (G G2 : Ev) (j : Nat) (σ : L2.St) (H : Hp) : Prop where
  w : Wk c B H0 G σ H
  no : ∀ a, ¬ Owned G σ a
  no2 : ∀ a, ¬ Owned G2 σ a
  ex : ∃ (B2 : Addr → Prop) (a : Addr), (∀ a, B a → B2 a) ∧ StOk c B2 G2 σ H ∧ σ[j]? = some (some (.ref a)) ∧ ToldAt c.K B B2 H a
theorem CleS.same {H0 : Hp} {G G2 : Ev} {j : Nat} (h : CleS c B H0 G G2 j σ H) (s : Same H H1) : CleS c B H0 G G2 j σ H1 := by
  obtain ⟨w, no, no2, B2, a, h1, h2, h3, h4⟩ := h
  exact ⟨w.same s, no, no2, B2, a, h1, h2.same s, h3, h4.same s⟩
theorem CleS.start {H0 : Hp} {j : Nat} {ds : List RA.D} (w : Wk c B H0 G σ H) (hs : ¬ c.scr) (no : noOwn G = true) (hp : ds.all pairIL = true) (e : G[j]? = some (some (false, .lst ds))) : CleS c B H0 G (killI (G.set j none)) j σ H := by
  have no1 : ∀ a, ¬ Owned G σ a := noOwn_of no
  obtain ⟨v, h1, h2⟩ := w.su.val j _ e
  have h2 : Rep c B H (.lst ds) v := h2.less fun b z => .inl z
  obtain ⟨a, rfl⟩ : ∃ a, v = .ref a := by cases h2; exact ⟨_, rfl⟩
  exact ⟨w, no1, fun a => killI_own a, _, a, fun a z => .inl z, w.su.ups no1 j, h1, ToldAt.mk hs hp h2⟩
end
section
variable {O : OpT} {S : Stat} {X : Cx} {W : WX} {sc : Scope} {xs : List (Nat × Str)} {B : Addr → Prop} {n : Nat} {H0 : Hp} {ks : List Nat}
theorem cle_1 (C : CtxS S X O W sc xs) {i j : Nat} {e : IE} {st : Stmt} {x : Str} {v : Expr} (hd : setDec st = some (x, v)) (h1 : okN S sc i x = true) (h2 : okE S e sc v = true) (hij : i ≠ j) {G G2 : Ev} {fl : Fl} {d : RA.D} (he : ev S.F e G2 = .ok (fl, d)) (hf : fl ≠ .tmp) :
    PS X st (fun D σ H => CleS (cfg X O) B H0 G G2 j σ H ∧ ∀ σ' H', CleS (cfg X O) B H0 (G.set i (some (false, d))) (G2.set i (some (false, d))) j σ' H' → D.nx σ' H') := by
  unfold setDec at hd
  split at hd
  · cases hd
    obtain ⟨k1, k2⟩ := okN_of C h1
    refine (PS.any fun B2 : Addr → Prop => set_ok (O := O) (B := B2) (G := G2) S e C.toCtxOk h2 k1 k2 (C.fnL k2)).weak fun D σ H ⟨t, R⟩ => ?_
    obtain ⟨w, no, no2, B2, a, q1, q2, q3, q4⟩ := t
    refine ⟨B2, q2, ?_⟩
    rw [he]
    intro v H1 s1 rv
    have r2 := rv.keep hf q2.ztr
    have r1 : Rep (cfg X O) (Zof B G σ) H1 d v := r2.less fun b z => z.elim (fun z => .inl (q1 b z)) fun z => absurd z (no b)
    have w1 := w.same s1
    refine R _ _ ⟨w1.step (w1.su.set r1) (Step.of (Same.refl H1) fun a z => .inl (own_set z)), fun a z => no a (own_set z), fun a z => no2 a (own_set z), B2, a, q1, (q2.same s1).set r2, ?_, q4.same s1⟩
    rw [List.getElem?_set_ne hij]; exact q3
  · cases hd
theorem cle_2 (C : CtxS S X O W sc xs) {j : Nat} {t : IE} {st : Stmt} {tx : Expr} (hd : kbDec st = some tx) (ht : isTst t = true) (h : okE S t sc tx = true) (G G2 : Ev) :
    PS X st (fun D σ H => CleS (cfg X O) B H0 G G2 j σ H ∧ (match asB (ev S.F t G) with
      | .ok true => ∀ H', KX B H0 H' → D.rt (.bl false) H'
      | .ok false => ∀ σ' H', CleS (cfg X O) B H0 G G2 j σ' H' → D.nx σ' H'
      | _ => False)) := by
  unfold kbDec at hd
  split at hd
  · cases hd
    refine (ps_if ((ev_ok (O := O) S t X W sc B G tx C.toCtxOk h).2 ht) pss_retF pss_nil).weak fun D σ H ⟨w, R⟩ => ⟨w.w.su, ?_⟩
    cases e : asB (ev S.F t G) with
    | no => rw [e] at R; exact R
    | ex c fs => rw [e] at R; exact False.elim R
    | ok b =>
      rw [e] at R
      intro H1 s1
      cases b with
      | true => exact R H1 (w.w.same s1).kx
      | false => exact R σ H1 (w.same s1)
  · cases hd
theorem cle_3 (C : CtxS S X O W sc xs) {j k1 k2 : Nat} {st : Stmt} (hd : cleDec S sc j k1 k2 st = true) (hk : k1 ≠ k2) (G G2 : Ev) (hl : k2 < G2.length) :
    PS X st (fun D σ H => CleS (cfg X O) B H0 G G2 j σ H ∧ ∀ σ' H', Wk (cfg X O) B H0 (forget [k1, k2] G2) σ' H' → D.nx σ' H') := by
  unfold cleDec at hd
  split at hd
  · rename_i tg z zp y yp m apos cpos ep pos
    simp only [Bool.and_eq_true, decide_eq_true_eq] at hd
    obtain ⟨⟨⟨⟨h1, h2⟩, h3⟩, rfl⟩, h5⟩ := hd
    unfold okV at h2 h3
    simp only [Bool.and_eq_true, decide_eq_true_eq] at h2 h3
    obtain ⟨⟨a1, a2⟩, a3⟩ := h2
    obtain ⟨⟨b1, b2⟩, b3⟩ := h3
    obtain ⟨p1, p2, _⟩ := plainN_of a3
    obtain ⟨p3, p4, _⟩ := plainN_of b3
    have hv : PE X (.Name z zp) (tVar j) := pe_var (by rw [C.N]; exact a1) (C.vis a2) p1 p2
    have hy : PE X (.Name y yp) (tVar k2) := pe_var (by rw [C.N]; exact b1) (C.vis b2) p3 p4
    have hb := pss_one (ps_expr (pos := ep) (pe_bm0 (X := X) PySem.F.plainAttrs_list PySem.F.slot_list_clear PySem.F.type_list_clear mt_clear hy (by rfl) h5) rfl)
    refine (ps_for C.po C.calm (pi_list hv) (pg_tg (S := S) (sl := stF sc) C.N C.nd C.locs C.calm h1) hb (by intro _; rfl)).weak fun D σ H ⟨t, R⟩ => ?_
    obtain ⟨w, no, no2, B2, a, q1, q2, q3, q4⟩ := t
    refine ⟨_, q3, a, rfl, ?_, ?_⟩
    · obtain ⟨ts, e, _⟩ := q4
      exact ⟨ts, .inl (.inl e)⟩
    obtain ⟨ts, e1, e2, e3⟩ := id q4
    have nb2 : ∀ x, (forget [k1, k2] G2)[k1]? ≠ some (some x) := fun x => forget_in (List.mem_cons_self ..)
    have nb3 : ∀ x, (forget [k1, k2] G2)[k2]? ≠ some (some x) := fun x => forget_in (List.mem_cons_of_mem _ (List.mem_cons_self ..))
    obtain ⟨f1, f2⟩ := q2.forgot [k1, k2]
    refine for_it (walk_list (K := X.K) (a := a) (xs := ts)) (fun t σ' H' => StOk (cfg X O) B2 (forget [k1, k2] G2) σ' H' ∧ (∀ b, ¬ Owned (forget [k1, k2] G2) σ' b) ∧ ToldAt X.K B B2 H' a ∧ H' a = some (.lst ts) ∧ KX B H0 H') ⟨f1, fun b z => no2 b (f2 b z), q4, e1, w.kx⟩ (fun _ _ _ _ h => .inl (.inl h.2.2.2.1)) ?_ ?_
    · rintro t x σ' H'' H' hi ⟨g1, g2, g3, g4, g5⟩ ⟨rfl, hx⟩
      obtain ⟨ts', u1, u2, u3⟩ := g3
      rw [g4] at u1; cases u1
      obtain ⟨ta, m, x0, rfl, t2, t3, t4, vs, t5⟩ := u3 t x hx
      obtain ⟨m1, m2⟩ := g1.junk g2 x0 nb2
      obtain ⟨m3, m4⟩ := m1.junk m2 (.ref m) nb3
      refine ⟨ta, [x0, .ref m], rfl, t2.sq, rfl, x0, [.ref m], rfl, .ref m, [], rfl, rfl, .ref m, ?_, .inl ⟨rfl, vs, .inl (.inl t5)⟩, m, vs, rfl, rfl, t5, ?_⟩
      · have e1 : k2 < σ'.length := by rw [← g1.len, f1.len, ← q2.len]; exact hl
        rw [List.getElem?_set_self (by rw [List.length_set]; exact e1)]
      · have ex : Ext B2 H' (upd H' m (.lst [])) := Ext.upd t5 trivial t3
        have al : ∀ b, H' b ≠ none → upd H' m (.lst []) b ≠ none := fun b hb => by
          by_cases q : b = m
          · subst q; rw [upd_same]; intro z; cases z
          · rw [upd_ne q]; exact hb
        have ls : ∀ b us, H' b = some (.lst us) → ∃ us', upd H' m (.lst []) b = some (.lst us') := fun b us hb => by
          by_cases q : b = m
          · subst q; exact ⟨[], upd_same⟩
          · exact ⟨us, by rw [upd_ne q]; exact hb⟩
        have am : a ≠ m := fun z => u2 (z ▸ t3)
        exact ⟨m3.extN m4 ex al, m4, ToldAt.ext ⟨ts, g4, u2, u3⟩ ex ls, by rw [upd_ne am]; exact g4, g5.trans (KX.clear t5 t4) fun a z => z⟩
    · rintro σ' H' ⟨g1, g2, g3, g4, g5⟩
      exact R σ' H' ⟨g1.lessB q1, g5, fun b z => absurd z (g2 b)⟩
  · cases hd
end
section
variable {O : OpT} {S : Stat} {X : Cx} {W : WX} {sc : Scope} {xs : List (Nat × Str)} {B : Addr → Prop} {n : Nat} {H0 : Hp} {ks : List Nat}
theorem cle_pss (C : CtxS S X O W sc xs) (hs : ¬ O.scr) {i j k1 k2 : Nat} {e t : IE} {r : Ev → Out} {s1 s2 s3 : Stmt} {sts : List Stmt}
    (h1 : (match setDec s1 with | some (x, v) => okN S sc i x && okE S e sc v | none => false) = true)
    (h2 : (match kbDec s2 with | some tx => isTst t && okE S t sc tx | none => false) = true) (h3 : cleDec S sc j k1 k2 s3 = true)
    (ih : PSs X sts (tW (cfg X O) B H0 r)) (G : Ev) : PSs X (s1 :: s2 :: s3 :: sts) (fun D σ H => Wk (cfg X O) B H0 G σ H ∧ ResW (cfg X O) B H0 D (cleO S.F i j k1 k2 e t r G G[j]?)) := by
  split at h1
  rotate_left
  · cases h1
  rename_i x v d1
  split at h2
  rotate_left
  · cases h2
  rename_i tx d2
  rw [Bool.and_eq_true] at h1 h2
  cases hG : G[j]? with
  | none => exact PSs.never fun σ H D q => q.2
  | some y =>
    cases y with
    | none => exact PSs.never fun σ H D q => q.2
    | some y =>
      obtain ⟨b, d⟩ := y
      cases b with
      | true => exact PSs.never fun σ H D q => q.2
      | false =>
        cases d <;> first | exact PSs.never fun σ H D q => q.2 | skip
        rename_i ds
        by_cases hn : (ds.all pairIL && noOwn G && decide (i ≠ j) && decide (k1 ≠ k2) && decide (k2 < G.length)) = true
        rotate_left
        · exact PSs.never fun σ H D q => by
            have q := q.2
            unfold cleO at q
            dsimp only at q
            rw [if_neg hn] at q; exact q
        have e0 : cleO S.F i j k1 k2 e t r G (some (some (false, .lst ds))) = cleE S.F G (killI (G.set j none)) i k1 k2 t r (ev S.F e (killI (G.set j none))) := if_pos hn
        rw [e0]
        simp only [Bool.and_eq_true, decide_eq_true_eq] at hn
        obtain ⟨⟨⟨⟨n1, n2⟩, n3⟩, n4⟩, n5⟩ := hn
        cases he : ev S.F e (killI (G.set j none)) with
        | no => exact PSs.never fun σ H D q => q.2
        | ex c fs => exact PSs.never fun σ H D q => q.2
        | ok y =>
          obtain ⟨fl, d⟩ := y
          by_cases hf : fl = .tmp
          · exact PSs.never fun σ H D q => by
              have q := q.2
              unfold cleE at q
              dsimp only at q
              rw [if_pos hf] at q; exact q
          have e1 : cleE S.F G (killI (G.set j none)) i k1 k2 t r (.ok (fl, d)) = cleT (killI (G.set j none)) i k1 k2 d r (asB (ev S.F t (G.set i (some (false, d))))) := if_neg hf
          rw [e1]
          refine (pss_cons (cle_1 (B := B) (H0 := H0) (G := G) C d1 h1.1 h1.2 n3 he hf) (pss_cons (cle_2 (B := B) (H0 := H0) (j := j) C d2 h2.1 h2.2 (G.set i (some (false, d))) ((killI (G.set j none)).set i (some (false, d)))) (pss_cons (cle_3 (B := B) (H0 := H0) C h3 n4 (G.set i (some (false, d))) ((killI (G.set j none)).set i (some (false, d))) (by rw [List.length_set, killI, List.length_map, List.length_set]; exact n5)) ih))).weak fun D σ H ⟨w, R⟩ => ⟨CleS.start w hs n2 n1 hG, fun σ1 H1 w1 => ⟨w1, ?_⟩⟩
          cases et : asB (ev S.F t (G.set i (some (false, d)))) with
          | no => rw [et] at R; exact R
          | ex c fs => rw [et] at R; exact R
          | ok tb =>
            rw [et] at R
            cases tb with
            | true => exact R
            | false => exact fun σ2 H2 w2 => ⟨w2, fun σ3 H3 w3 => ⟨_, w3, R⟩⟩
theorem ws_ok (C : CtxS S X O W sc xs) (hks : ∀ f, ks.contains f = true → FOkK (cfg X O) S.nm S.k f (S.F f)) : ∀ (p : WS) (sts : List Stmt), (hasC p = true → ¬ O.scr) → okW S xs ks sc p sts = true → PSs X sts (tW (cfg X O) B H0 (wx S.F n p))
  | .nil, sts, hc, h => by
    cases sts with
    | cons _ _ => simp [okW] at h
    | nil => exact pss_nil.weak fun D σ H ⟨G, w, R⟩ => R σ H w
  | .st s r, sts, hc, h => by
    cases sts with
    | nil => simp [okW] at h
    | cons st sts =>
      simp only [okW, Bool.and_eq_true] at h
      exact (pss_cons (PS.any fun G => st_ps (n := n) C h.1 G) (ws_ok C hks r sts hc h.2)).weak fun D σ H ⟨G, w, R⟩ => ⟨G, w, ResW.seq (f := fun _ => .no) (by rw [← seq_st]; exact R)⟩
  | .fgt is r, sts, hc, h => by
    have h : okW S xs ks sc r sts = true := by cases sts <;> exact h
    refine (ws_ok C hks r sts hc h).weak fun D σ H ⟨G, w, R⟩ => ?_
    obtain ⟨k1, k2⟩ := w.su.forgot is
    exact ⟨_, w.step k1 (Step.of (Same.refl H) fun a z => .inl (k2 a z)), R⟩
  | .frz i r, sts, hc, h => by
    have h : okW S xs ks sc r sts = true := by cases sts <;> exact h
    refine (ws_ok C hks r sts hc h).weak fun D σ H ⟨G, w, R⟩ => ?_
    have R : ResW (cfg X O) B H0 D (frzW (wx S.F n r) G i G[i]?) := R
    unfold frzW at R
    split at R
    · rename_i d hG
      by_cases nl : isLn d = true
      · simp only [nl, if_true] at R
        exact False.elim R
      simp only [nl, if_false, Bool.false_eq_true] at R
      obtain ⟨k1, k2⟩ := w.su.frz hG (by simpa using nl)
      exact ⟨_, w.step k1 (Step.of (Same.refl H) fun a z => .inl (k2 a z)), R⟩
    · exact False.elim R
  | .cas t a r, sts, hc, h => by
    have hc1 : hasC a = true → ¬ O.scr := fun z => hc (by unfold hasC; rw [z]; rfl)
    have hc2 : hasC r = true → ¬ O.scr := fun z => hc (by unfold hasC; rw [z, Bool.or_true])
    cases sts with
    | nil => simp [okW] at h
    | cons st sts =>
      simp only [okW, Bool.and_eq_true] at h
      obtain ⟨h1, h2⟩ := h
      split at h1
      · rename_i tx as hd
        simp only [Bool.and_eq_true] at h1
        obtain ⟨⟨h3, h4⟩, h5⟩ := h1
        unfold ifDec at hd
        split at hd
        · cases hd
          have iha := ws_ok C hks a as hc1 h5
          refine (pss_cons (PS.any fun G => ps_if ((ev_ok (O := O) S t X W sc B G tx C.toCtxOk h4).2 h3) iha pss_nil) (ws_ok C hks r sts hc2 h2)).weak fun D σ H ⟨G, w, R⟩ => ⟨G, w.su, ?_⟩
          have R : ResW (cfg X O) B H0 D (casO (wx S.F n a) (wx S.F n r) G (asB (ev S.F t G))) := R
          cases e : asB (ev S.F t G) with
          | no => rw [e] at R; exact R
          | ex c fs => rw [e] at R; exact False.elim R
          | ok b =>
            rw [e] at R
            intro H1 s1
            cases b with
            | false => exact ⟨G, w.same s1, R⟩
            | true =>
              refine ⟨G, w.same s1, ?_⟩
              have R : ResW (cfg X O) B H0 D (match wx S.F n a G with | .rt o d => .rt o d | _ => .no) := R
              cases ea : wx S.F n a G with
              | rt o d => rw [ea] at R; cases o <;> cases d <;> exact R
              | no => rw [ea] at R; exact False.elim R
              | nx _ => rw [ea] at R; exact False.elim R
              | bk _ => rw [ea] at R; exact False.elim R
              | ct _ => rw [ea] at R; exact False.elim R
              | ex _ _ _ => rw [ea] at R; exact False.elim R
        · cases hd
      · cases h1
  | .kif g f as r, sts, hc, h => by
    cases sts with
    | nil => simp [okW] at h
    | cons st sts =>
      simp only [okW, Bool.and_eq_true] at h
      obtain ⟨h1, h2⟩ := h
      split at h1
      · rename_i gx e hd
        rw [Bool.and_eq_true] at h1
        exact (pss_cons (PS.any fun G => kif_ps C hks hd h1.1 h1.2 G) (ws_ok C hks r sts hc h2)).weak fun D σ H ⟨G, w, R⟩ => ⟨G, w, ResW.seq (f := fun _ => .no) (by rw [← seq_kif]; exact R)⟩
      · cases h1
  | .kret g f as, sts, hc, h => by
    cases sts with
    | nil => simp [okW] at h
    | cons st sts =>
      cases sts with
      | cons _ _ => simp [okW] at h
      | nil =>
        have h1 : (match kretDec g st with | some (gx, e) => okG S sc g gx && okC S ks sc f as e | none => false) = true := h
        split at h1
        · rename_i gx e hd
          rw [Bool.and_eq_true] at h1
          exact (pss_one (PS.any fun G => kret_ps C hks hd h1.1 h1.2 G)).weak fun D σ H ⟨G, w, R⟩ => ⟨G, w, R⟩
        · cases h1
  | .clr e r, sts, hc, h => by
    cases sts with
    | nil => simp [okW] at h
    | cons st sts =>
      simp only [okW, Bool.and_eq_true] at h
      obtain ⟨h1, h2⟩ := h
      split at h1
      · rename_i o hd
        exact (pss_cons (PS.any fun G => clr_ps C hd h1 G) (ws_ok C hks r sts hc h2)).weak fun D σ H ⟨G, w, R⟩ => ⟨G, w, ResW.seq (f := fun _ => .no) (by rw [← seq_clr]; exact R)⟩
      · cases h1
  | .rng i m b r, sts, hc, h => by
    have hc1 : hasC b = true → ¬ O.scr := fun z => hc (by unfold hasC; rw [z]; rfl)
    have hc2 : hasC r = true → ¬ O.scr := fun z => hc (by unfold hasC; rw [z, Bool.or_true])
    cases sts with
    | nil => simp [okW] at h
    | cons st sts =>
      simp only [okW, Bool.and_eq_true] at h
      obtain ⟨h1, h2⟩ := h
      split at h1
      · rename_i x y k bs hd
        simp only [Bool.and_eq_true, decide_eq_true_eq] at h1
        obtain ⟨⟨⟨⟨h3, h4⟩, h5⟩, h6⟩, h7⟩ := h1
        exact (pss_cons (PS.any fun G => rng_ps C hd h3 h4 h5 h6 (ws_ok C hks b bs hc1 h7) G) (ws_ok C hks r sts hc2 h2)).weak fun D σ H ⟨G, w, R⟩ => ⟨G, w, ResW.seq (f := fun _ => .no) R⟩
      · cases h1
  | .two is e t a g f as1 as2 r, sts, hc, h => by
    match sts, h with
    | [], h => simp [okW] at h
    | [_], h => simp [okW] at h
    | [_, _], h => simp [okW] at h
    | [_, _, _], h => simp [okW] at h
    | s1 :: s2 :: s3 :: s4 :: sts, h =>
      simp only [okW, Bool.and_eq_true] at h
      obtain ⟨⟨⟨⟨h1, h2⟩, h3⟩, h4⟩, h5⟩ := h
      exact (PSs.any fun G => two_pss (n := n) C hks (by simpa using h1) (by simpa using h2) (by simpa using h3) h4 (ws_ok C hks r sts hc h5) G).weak fun D σ H ⟨G, w, R⟩ => ⟨G, w, R⟩
  | .cle i j k1 k2 e t r, sts, hc, h => by
    match sts, h with
    | [], h => simp [okW] at h
    | [_], h => simp [okW] at h
    | [_, _], h => simp [okW] at h
    | s1 :: s2 :: s3 :: sts, h =>
      simp only [okW, Bool.and_eq_true] at h
      obtain ⟨⟨⟨h1, h2⟩, h3⟩, h4⟩ := h
      exact (PSs.any fun G => cle_pss C (hc rfl) h1 h2 h3 (ws_ok C hks r sts (fun _ => hc rfl) h4) G).weak fun D σ H ⟨G, w, R⟩ => ⟨G, w, R⟩
  | .swi r, sts, hc, h => by
    have h : okW S xs ks sc r sts = true := by cases sts <;> exact h
    refine (ws_ok C hks r sts hc h).weak fun D σ H ⟨G, w, R⟩ => ⟨G, w, ?_⟩
    have R : ResW (cfg X O) B H0 D (if freeG G = true then wx S.F n r G else .no) := R
    split at R
    · exact R
    · exact False.elim R
end
section
variable {O : OpT} {P : Program} {w : World} {K : PySem.W.Frag} {mg : Str → Option Value} {base : Heap}
/-- a def by its body and its mirror -/
theorem fnok_ofK {S : Stat} {xs : List (Nat × Str)} {ks : List Nat} {n : Nat} {m : List RA.D → Rs (Bool × RA.D)} {qual : Str} {st : Stmt} {f : Addr} {fd : FuncData} {ps : List Str} {ws : WS} (F : Fun K (S.nm n) qual st f fd) (Sc : FnScope S.N ps (defScope st))
    (ok : okW S xs ks (defScope st) ws (defBody st) = true) (hc : hasC ws = true → ¬ O.scr) (hbs : ∀ x, S.bs.contains x = true → mg x = none)
    (hfs : ∀ n, S.us.contains n = true → FOk { toOpT := O, P := P, w := w, K := K, mg := mg, base := base } S.nm S.k n (S.F n))
    (hks : ∀ n, ks.contains n = true → FOkK { toOpT := O, P := P, w := w, K := K, mg := mg, base := base } S.nm S.k n (S.F n))
    (hgs : ∀ n, S.gs.contains n = true → GlOk { toOpT := O, P := P, w := w, K := K, mg := mg, base := base } S.nm n (S.F n []))
    (hxs : ∀ (X : Cx), X.K = K → X.mg = mg → ∀ c x, xs.contains (c, x) = true → ExOk X O c x)
    (hxt : ∀ t, S.xts.contains t = true → XtOk S { toOpT := O, P := P, w := w, K := K, mg := mg, base := base } t) (hyt : ∀ t, S.yts.contains t = true → YtOk S { toOpT := O, P := P, w := w, K := K, mg := mg, base := base } t) (htr : ∀ y ys ns, S.trs.contains (y, ys, ns) = true → TrOk K mg O y ys ns)
    (hrun : ∀ ds, m ds ≠ .no → ds.length = ps.length ∧ ∃ fuel, wrun S.F fuel S.N.length ws ds = m ds) : FnOk P w K mg base (L2.CX P w) (S.k + 1) f fd ps (spK { toOpT := O, P := P, w := w, K := K, mg := mg, base := base } m) := by
  refine F.okX Sc (fun vs H Q E h => ?_) fun cdv A outer s H vs Q E hr hsp => ?_
  · obtain ⟨B, ds, b, hB, hT, hr, h, q⟩ := h
    rw [← hr.length]; exact (hrun ds (by rw [h]; intro z; cases z)).1
  · obtain ⟨B, ds, b, hB, hT, hrs, h, q⟩ := hsp
    obtain ⟨hl, fuel, hrun⟩ := hrun ds (by rw [h]; intro z; cases z)
    have hpl : ps.length ≤ S.N.length := by have := congrArg List.length Sc.pre; rw [List.length_take] at this; omega
    let X := cxOf (L2.CX P w) P w K mg base S.N qual (defScope st) f cdv A outer s H E
    have C : CtxS S X O (fun cls d _ H' => E cls d H') (defScope st) xs :=
      { N := rfl, nd := Sc.nd, kd := Sc.kind, sc := rfl, calm := rfl, room := hr, tk := takes_of rfl rfl rfl rfl, bs := hbs, fs := hfs, gs := hgs, po := passes_of rfl, fn := fun _ _ => rfl, xs := hxs X rfl rfl, xt := hxt, yt := hyt, tr := htr, stk := rfl, fra := rfl, exn := rfl }
    refine ⟨_, ws_ok (O := O) (B := B) (H0 := H) (n := fuel) C hks ws _ hc ok, startG S.N.length ds, ?_⟩
    obtain ⟨Su, no⟩ := start_get (N := S.N) (c := cfg X O) (B := B) (H := H) hrs.length hrs (by rw [hl]; exact hpl) hB hT
    refine ⟨⟨Su, KX.refl, fun a z => absurd z (no a)⟩, ?_⟩
    rw [h] at hrun
    unfold wrun at hrun
    cases e : wx S.F fuel ws (startG S.N.length ds) with
    | rt o d =>
      rw [e] at hrun
      cases o with
      | true => cases hrun
      | false =>
        cases d <;> first | (cases hrun; done) | skip
        cases hrun
        exact fun H' kx => q H' kx
    | no => rw [e] at hrun; cases hrun
    | nx _ => rw [e] at hrun; cases hrun
    | bk _ => rw [e] at hrun; cases hrun
    | ct _ => rw [e] at hrun; cases hrun
    | ex _ _ _ => rw [e] at hrun; cases hrun
theorem fokK_mk {S : Stat} {n : Nat} {m : List RA.D → Rs (Bool × RA.D)} {f : Addr} {fd : FuncData} {ps : List Str} (h : FnOk P w K mg base (L2.CX P w) (S.k + 1) f fd ps (spK { toOpT := O, P := P, w := w, K := K, mg := mg, base := base } m)) (k : PySem.W.keepIn K (.ref f) = true) (b : Binds K fd ps []) (hm : mg (S.nm n) = some (.ref f)) :
    FOkK { toOpT := O, P := P, w := w, K := K, mg := mg, base := base } S.nm (S.k + 1) n m := ⟨f, fd, ps, hm, k, b, h⟩
theorem law_ofK {k : Nat} {m : List RA.D → Rs (Bool × RA.D)} {f : Addr} {fd : FuncData} {ps : List Str} (F : FnOk P w K mg base (L2.CX P w) k f fd ps (spK { toOpT := O, P := P, w := w, K := K, mg := mg, base := base } m))
    (h : ∀ ns : List Int, ns.length ≤ 63 → m [.lst (ns.map .int)] = .ok (false, .bl true)) (h0 : ∀ H : Hp, TabsOk H := by exact fun H p hp => (nomatch hp)) (hs : O.scr := by exact trivial) : FnOk P w K mg base (L2.CX P w) k f fd ps (spLaw K) := by
  refine F.imp fun vs H Q E ⟨a, ns, ev, hS, hl, q⟩ => ?_
  subst ev
  exact ⟨fun _ => False, [.lst (ns.map .int)], true, fun a z => z.elim, h0 H, .cons (.lst (.ints hs hS) Reps.ints) .nil, h ns hl, fun H' _ => q H'⟩
end
section
variable {c : Cfg} {nm : Nat → Str} {k : Nat} {f : FT}
theorem ks_nil : ∀ n : Nat, ([] : List Nat).contains n = true → FOkK c nm k n (f n) := fun x h => by simp at h
theorem ks_cons {m : Nat} {l : List Nat} (h : FOkK c nm k m (f m)) (r : ∀ n : Nat, l.contains n = true → FOkK c nm k n (f n)) : ∀ n : Nat, (m :: l).contains n = true → FOkK c nm k n (f n) := fun x hx => by
  rw [List.contains_cons, Bool.or_eq_true] at hx
  rcases hx with z | z
  · rw [eq_of_beq z]; exact h
  · exact r x z
end
end RA
/-! WK0: defs that clear what others hold, stepped; a refusal that is well. -/
namespace RA
open PySem PySem.Spec PyProof.Rows L2
def mkW (np nn : Nat) (F : FT) (ws : WS) : List RA.D → Rs (Bool × RA.D) := fun ds => if ds.length = np then wrun F FUEL nn ws ds else .no
theorem mkW_run {np nn : Nat} {F : FT} {ws : WS} : ∀ ds, mkW np nn F ws ds ≠ .no → ds.length = np ∧ ∃ fuel, wrun F fuel nn ws ds = mkW np nn F ws ds := fun ds h => by
  unfold mkW at h ⊢
  split at h
  · rename_i e
    exact ⟨e, FUEL, by rw [if_pos e]⟩
  · exact absurd rfl h
theorem fin_rtb {o : Out} {b : Bool} : fin o = .ok (false, .bl b) ↔ o = .rt false (.bl b) := by
  constructor
  · intro h
    cases o with
    | rt o d => cases h; rfl
    | _ => cases h
  · rintro rfl; rfl
theorem mkW_of {np nn : Nat} {F : FT} {ws : WS} {ds : List RA.D} {b : Bool} (hl : ds.length = np) (h : Sat (wx F FUEL ws (startG nn ds)) fun o => fin o = .ok (false, .bl b)) : mkW np nn F ws ds = .ok (false, .bl b) := by
  unfold mkW wrun
  rw [if_pos hl, fin_rtb.mp h]
section
variable {F : FT} {n : Nat} {G : Ev} {b : Bool}
theorem sat_wst {s : IS} {r : WS} : Sat (wx F n (.st s r) G) (fun o => fin o = .ok (false, .bl b)) ↔ Sat (seqO (exec F n s G) (wx F n r)) (fun o => fin o = .ok (false, .bl b)) := by
  show fin (stO (wx F n r) (exec F n s G)) = _ ↔ fin (seqO (exec F n s G) (wx F n r)) = _
  cases exec F n s G with
  | nx G' => exact Iff.rfl
  | rt o d =>
    cases o with
    | true => exact ⟨fun h => (by cases h), fun h => (by cases h)⟩
    | false => cases d <;> first | exact Iff.rfl | exact ⟨fun h => (by cases h), fun h => (by cases h)⟩
  | no => exact Iff.rfl
  | bk _ => exact ⟨fun h => (by cases h), fun h => (by cases h)⟩
  | ct _ => exact ⟨fun h => (by cases h), fun h => (by cases h)⟩
  | ex _ _ _ => exact ⟨fun h => (by cases h), fun h => (by cases h)⟩
theorem w_nil : wx F n .nil G = .nx G := (rfl)
theorem w_fgt {is : List Nat} {r : WS} : wx F n (.fgt is r) G = wx F n r (forget is G) := (rfl)
theorem w_cas {t : IE} {a r : WS} : wx F n (.cas t a r) G = casO (wx F n a) (wx F n r) G (asB (ev F t G)) := (rfl)
theorem cas_f {a r : Ev → Out} : casO a r G (.ok false) = r G := (rfl)
theorem cas_t {a r : Ev → Out} : Sat (casO a r G (.ok true)) (fun o => fin o = .ok (false, .bl b)) ↔ Sat (a G) (fun o => fin o = .ok (false, .bl b)) := by
  show fin (match a G with | .rt o d => .rt o d | _ => .no) = _ ↔ fin (a G) = _
  cases a G with
  | rt o d => exact Iff.rfl
  | _ => exact ⟨fun h => (by cases h), fun h => (by cases h)⟩
theorem w_kif {g : Option IE} {f : Nat} {as : IEs} {r : WS} : wx F n (.kif g f as r) G = kifO (wx F n r) (wcall F f as G) G (gateO F g false G) := (rfl)
theorem w_kret {g : Option IE} {f : Nat} {as : IEs} : wx F n (.kret g f as) G = kretO (wcall F f as G) (gateO F g true G) := (rfl)
theorem kif_f1 {r : Ev → Out} : kifO r (some true) G (.ok false) = r (killG G) := (rfl)
theorem kret_t : kretO (some b) (.ok true) = .rt false (.bl b) := (rfl)
theorem gate_n : gateO F none b G = .ok b := (rfl)
theorem gate_s {t : IE} : gateO F (some t) b G = asB (ev F t G) := (rfl)
def wb : Rs (Bool × RA.D) → Option Bool
  | .ok (false, .bl b) => some b
  | _ => none
def wcO (F : FT) (f : Nat) : Rs (List (Fl × RA.D)) → Option Bool
  | .ok xs => if keepOk xs = true then wb (F f (xs.map (·.2))) else none
  | _ => none
theorem wcall_eq {f : Nat} {as : IEs} : wcall F f as G = wcO F f (evs F as G) := by
  unfold wcall wcO
  cases evs F as G with
  | ok xs =>
    dsimp only
    split
    · generalize F f (xs.map (·.2)) = r
      cases r with
      | ok a =>
        obtain ⟨o, d⟩ := a
        cases o <;> cases d <;> rfl
      | _ => rfl
    · rfl
  | _ => rfl
theorem wcO_ok {f : Nat} {xs : List (Fl × RA.D)} : wcO F f (.ok xs) = if keepOk xs = true then wb (F f (xs.map (·.2))) else none := (rfl)
theorem wb_ok : wb (.ok (false, .bl b)) = some b := (rfl)
theorem w_clr {e : IE} {r : WS} : wx F n (.clr e r) G = clrW (wx F n r) G (ev F e G) := (rfl)
theorem clrW_ok {r : Ev → Out} {ds : List RA.D} (h : ds.all isIntD = false) : clrW r G (.ok (.val, .lst ds)) = r (killG G) := by
  unfold clrW
  dsimp only
  rw [h, if_neg Bool.false_ne_true]
theorem kill_nil : killG [] = [] := (rfl)
theorem kill_cons {x : Option (Bool × RA.D)} : killG (x :: G) = killS x :: killG G := (rfl)
theorem kill_keep {x : Bool × RA.D} (h : lendOk x = true) : killS (some x) = some x := if_pos h
theorem kill_drop {x : Bool × RA.D} (h : lendOk x = false) : killS (some x) = none := if_neg (by rw [h]; exact Bool.false_ne_true)
theorem w_rng {i k : Nat} {b r : WS} : wx F n (.rng i k b r) G = seqW (wx F n r) (wloop (wx F n b) i k 0 G) := (rfl)
end
theorem noL_nats' : ∀ l : List Nat, noLs (l.map (fun (n : Nat) => RA.D.int n)) = true
  | [] => rfl
  | a :: l => by rw [List.map_cons]; unfold noLs; rw [noL_nats' l]; rfl
theorem noL_mD {s : List Nat} {rows : List (List Nat)} {marks : List Bool} : lendOk (false, mD s rows marks) = true := by
  show noLs [.str s, .tup (rows.map (fun r : List Nat => RA.D.tup (r.map (fun (n : Nat) => RA.D.int n)))), .tup (marks.map .bl)] = true
  have h1 : ∀ rows : List (List Nat), noLs (rows.map (fun r : List Nat => RA.D.tup (r.map (fun (n : Nat) => RA.D.int n)))) = true := fun rows => by
    induction rows with
    | nil => rfl
    | cons r rows ih =>
      rw [List.map_cons]
      show (noLs (r.map (fun (n : Nat) => RA.D.int n)) && noLs (rows.map (fun r : List Nat => RA.D.tup (r.map (fun (n : Nat) => RA.D.int n))))) = true
      rw [noL_nats', ih]; rfl
  have h2 : ∀ ms : List Bool, noLs (ms.map RA.D.bl) = true := fun ms => by
    induction ms with
    | nil => rfl
    | cons m ms ih => rw [List.map_cons]; show (true && noLs (ms.map RA.D.bl)) = true; rw [ih]; rfl
  show (true && (noLs (rows.map (fun r : List Nat => RA.D.tup (r.map (fun (n : Nat) => RA.D.int n)))) && (noLs (marks.map RA.D.bl) && true))) = true
  rw [h1, h2]; rfl
theorem noL_kT (l : List (List Nat)) : lendOk (true, .dct (kv (fun r : List Nat => RA.D.tup (r.map (fun (n : Nat) => RA.D.int n))) (kT l))) = true := by
  show ((kv (fun r : List Nat => RA.D.tup (r.map (fun (n : Nat) => RA.D.int n))) (kT l)).all fun kv => noL kv.1 && noL kv.2) = true
  rw [List.all_eq_true]
  intro x hx
  obtain ⟨p, hp, rfl⟩ := List.mem_map.mp hx
  obtain ⟨q, _, rfl⟩ := List.mem_map.mp hp
  rw [Bool.and_eq_true]
  exact ⟨by show noLs (q.map (fun (n : Nat) => RA.D.int n)) = true; exact noL_nats' _, rfl⟩
/- 209 _law_kinds(_law_e); slots: 0=_law_e 1=_law_found; calls:  -/
def i_law_kinds_6 : IS := (.seq (.own 1 (.lst .nil)) (.seq (.if_ (.xt (.isc "NoLetters" [] [3, 59]) (.cons (.v 0) .nil)) (.seq (.app 1 (.k (.str [78, 111, 76, 101, 116, 116, 101, 114, 115]))) .nil) .nil) (.seq (.if_ (.xt (.isc "NoWord" [3] [59]) (.cons (.v 0) .nil)) (.seq (.app 1 (.k (.str [78, 111, 87, 111, 114, 100]))) .nil) .nil) (.seq (.if_ (.xt (.isc "NoNumber" [] [3, 59]) (.cons (.v 0) .nil)) (.seq (.app 1 (.k (.str [78, 111, 78, 117, 109, 98, 101, 114]))) .nil) .nil) (.seq (.if_ (.xt (.isc "NoRoom" [] [3, 59]) (.cons (.v 0) .nil)) (.seq (.app 1 (.k (.str [78, 111, 82, 111, 111, 109]))) .nil) .nil) (.seq (.if_ (.xt (.isc "NoMachine" [] [3, 59]) (.cons (.v 0) .nil)) (.seq (.app 1 (.k (.str [78, 111, 77, 97, 99, 104, 105, 110, 101]))) .nil) .nil) (.seq (.if_ (.xt (.isc "OtherLetters" [] [3, 59]) (.cons (.v 0) .nil)) (.seq (.app 1 (.k (.str [79, 116, 104, 101, 114, 76, 101, 116, 116, 101, 114, 115]))) .nil) .nil) (.seq (.if_ (.xt (.isc "TooMany" [] [3, 59]) (.cons (.v 0) .nil)) (.seq (.app 1 (.k (.str [84, 111, 111, 77, 97, 110, 121]))) .nil) .nil) (.seq (.if_ (.xt (.isc "NoPattern" [] [3, 59]) (.cons (.v 0) .nil)) (.seq (.app 1 (.k (.str [78, 111, 80, 97, 116, 116, 101, 114, 110]))) .nil) .nil) (.seq (.if_ (.xt (.isc "TooGreat" [59] [3]) (.cons (.v 0) .nil)) (.seq (.app 1 (.k (.str [84, 111, 111, 71, 114, 101, 97, 116]))) .nil) .nil) (.seq (.if_ (.xt (.isc "NoKind" [] [3, 59]) (.cons (.v 0) .nil)) (.seq (.app 1 (.k (.str [78, 111, 75, 105, 110, 100]))) .nil) .nil) (.seq (.if_ (.not_ (.xt (.isc "ValueError" [3, 59] []) (.cons (.v 0) .nil))) (.seq (.app 1 (.k (.str [111, 116, 104, 101, 114]))) .nil) .nil) (.seq (.retp 1) .nil)))))))))))))
def f_law_kinds_6 : FT := fun _ _ => .no
def m_law_kinds_6 : List RA.D → Rs (Bool × RA.D) := mk 1 2 f_law_kinds_6 i_law_kinds_6
/- 210 _law_refused_well(_law_caught, _law_machine_here); slots: 0=_law_caught 1=_law_machine_here 2=_law_seen 3=_law_word_here; calls: 209=law_kinds_6 171=law_act 15=law_is_word -/
def f_law_refused_well : FT := fun n ds => match n, ds with | 209, ds => m_law_kinds_6 ds | 171, ds => m_law_act ds | 15, ds => m_law_is_word ds | _, _ => .no
@[simp] theorem f_law_refused_well_209 (ds : List RA.D) : f_law_refused_well 209 ds = m_law_kinds_6 ds := (rfl)
@[simp] theorem f_law_refused_well_171 (ds : List RA.D) : f_law_refused_well 171 ds = m_law_act ds := (rfl)
@[simp] theorem f_law_refused_well_15 (ds : List RA.D) : f_law_refused_well 15 ds = m_law_is_word ds := (rfl)
local macro_rules | `(tactic| dsimp! [$xs,*]) => `(tactic| simp (disch := first | assumption | omega | (simp only [List.length_map, List.length_append, List.length_cons, List.length_nil, List.length_range, List.length_set]; omega) | decide | rfl) only [inn_lst, inn_dct, inn_ln, isLn_lst, isLn_dct, tstO_eq, x_seq, x_set, x_own, x_do, x_if, x_for, x_whl, x_ret, x_retN, x_pass, x_brk, x_cnt, x_rse, x_fgt, x_frz, x_retp, x_app, x_aug, x_unp, x_put, e_v, e_pk, e_k, e_gl, e_b, e_neg, e_cmp, e_and, e_or, e_not, e_ife, e_tup, e_lst, e_dct, e_dct1, e_lset, e_ix, e_sl, e_rv, rv_lst, e_out, e_bi, e_me, e_call, es_nil, es_cons, i_ex, i_rng1, i_rng2, i_zip, i_rev, valO_ok, pkO_ok, glO_ok, negO_ok, frzO_ok, retO_ok, augO_add, augO_sub, walkO_lst, walkO_tup, walkO_str, zipO_ok, zipI_ok, revO_ok, asB_ok, items_lst, items_tup, items_str, bindT_one, bindT_tup, setAll_nil, setAll_cons, forget_nil, forget_cons, prt_int, prt_out, isOut, keepOk_nil, keepOk_cons, recv_str, b_add, b_sub, c_lt, c_le, c_gt, c_ge, c_ltS, c_gtS, c_eqI, c_neI, c_eqS, c_neS, c_eqB, c_neB, c_isn, c_isnt, c_memS, c_nmemS, sl_lst, len_lst, len_tup, is_str, is_intI, is_boolI, is_boolB, tuple_lst, list_lst, list_tup, find_one, seqO_nx, seqO_no, seqO_rt, seqO_ex, seqO_bk, seqO_ct, seqO_seqO, seqO_ite, x_nil, sat_nx, sat_rt, sat_ex, sat_thru, sat_thru_ct, sat_nxt, sat_t1, sat_t1c, sat_t1r, sat_t1e, Rs.bind_ok, Rs.bind_ex, Rs.out_ok, Rs.out_ex, List.set_cons_succ, List.set_cons_zero, List.getElem?_cons_succ, List.getElem?_cons_zero, List.map_cons, List.map_nil, List.cons_append, List.nil_append, startG, List.reduceReplicate, List.length_cons, List.length_nil, Nat.reduceAdd, Nat.reduceSub, Nat.zero_add, Nat.add_zero, Nat.zero_le, Nat.reduceLeDiff, List.append_nil, reduceCtorEq, if_true, if_false, ite_true, ite_false, ne_eq, not_false_eq_true, not_true_eq_false, decide_true, decide_false, decide_not, Bool.not_true, Bool.not_false, Bool.and_true, Bool.true_and, Bool.and_self, Bool.false_eq_true, and_self, and_true, true_and, decide_eq_true_eq, Int.reduceEq, Int.cast_ofNat_Int, Int.reduceNe, Int.reduceLT, Int.reduceLE, Int.reduceNeg, Int.reduceAdd, Int.reduceSub, tgSlots, freeAt, List.all_cons, List.all_nil, isNon_non, isNon_str, isNon_int, isNon_bl, isNon_tup, isNon_lst, isNon_opq, fin_nx, fin_rt, fin_ex, e_xt, Bool.true_eq_false, eq_self, isc_non, isc_opq, x_xs, x_clr, x_try, tryO_nx, tryO_rt, tryO_ex, hdG_as, hdG_cst, List.contains_cons, List.contains_nil, Nat.reduceBEq, beq_self_eq_true, up_nil, up_cons, tn_nx, tn_ct, tn_bk, tn_rt, tn_ex, b_fdiv, b_mod, max_two, min_two, ixl, ixt, ixl_last, ixl_zero, ixt_zero, ixs, ixs_last, ixT0, ixT1, ixT12, ixT22, ixL0, ixL1, ixM0, ixM1, ixM2, lenS, slS, rvS, catS, appL, unp2, unp3, r1, r2, r2one, e_comp2, it_nth, nat1, nat1l, natA, natM, natD, natR, natS, natS1, natE, natL, natLe, natL0, natN0, nat0, max_nats, Bool.not_eq_true', Bool.not_eq_false', List.length_map, List.length_append, List.length_range, Bool.true_or, Bool.false_or, Bool.or_true, Bool.or_false, Bool.and_false, Bool.false_and, Bool.or_self, decide_eq_false_iff_not, Nat.lt_irrefl, Bool.not_eq_eq_eq_not, not_true, not_false_iff, Nat.not_lt_zero, f_law_refused_well_209, f_law_refused_well_171, f_law_refused_well_15, $xs,*])
theorem isL_lst' {xs : List RA.D} : biD .isLst [.lst xs] = .ok (.val, .bl true) := (rfl)
end RA
/-! W31: a refusal that is well (with what was cleared); steps behind and ahead. -/
namespace RA
open PySem PySem.Spec PyProof.Rows L2
/- 205 _law_steps(_law_machine_here, _law_found, _law_places); slots: 0=_law_machine_here 1=_law_found 2=_law_places 3=_law_behind 4=_law_ahead 5=_law_act_here 6=_law_row 7=_law_other 8=_law_k 9=_law_room 10=_law_goals; calls:  -/
/- 213 _law_kinds(_law_e); slots: 0=_law_e 1=_law_found; calls:  -/
def i_law_kinds_7 : IS := (.seq (.own 1 (.lst .nil)) (.seq (.if_ (.xt (.isc "NoLetters" [] [59]) (.cons (.v 0) .nil)) (.seq (.app 1 (.k (.str [78, 111, 76, 101, 116, 116, 101, 114, 115]))) .nil) .nil) (.seq (.if_ (.xt (.isc "NoWord" [] [59]) (.cons (.v 0) .nil)) (.seq (.app 1 (.k (.str [78, 111, 87, 111, 114, 100]))) .nil) .nil) (.seq (.if_ (.xt (.isc "NoNumber" [] [59]) (.cons (.v 0) .nil)) (.seq (.app 1 (.k (.str [78, 111, 78, 117, 109, 98, 101, 114]))) .nil) .nil) (.seq (.if_ (.xt (.isc "NoRoom" [] [59]) (.cons (.v 0) .nil)) (.seq (.app 1 (.k (.str [78, 111, 82, 111, 111, 109]))) .nil) .nil) (.seq (.if_ (.xt (.isc "NoMachine" [] [59]) (.cons (.v 0) .nil)) (.seq (.app 1 (.k (.str [78, 111, 77, 97, 99, 104, 105, 110, 101]))) .nil) .nil) (.seq (.if_ (.xt (.isc "OtherLetters" [] [59]) (.cons (.v 0) .nil)) (.seq (.app 1 (.k (.str [79, 116, 104, 101, 114, 76, 101, 116, 116, 101, 114, 115]))) .nil) .nil) (.seq (.if_ (.xt (.isc "TooMany" [] [59]) (.cons (.v 0) .nil)) (.seq (.app 1 (.k (.str [84, 111, 111, 77, 97, 110, 121]))) .nil) .nil) (.seq (.if_ (.xt (.isc "NoPattern" [] [59]) (.cons (.v 0) .nil)) (.seq (.app 1 (.k (.str [78, 111, 80, 97, 116, 116, 101, 114, 110]))) .nil) .nil) (.seq (.if_ (.xt (.isc "TooGreat" [59] []) (.cons (.v 0) .nil)) (.seq (.app 1 (.k (.str [84, 111, 111, 71, 114, 101, 97, 116]))) .nil) .nil) (.seq (.if_ (.xt (.isc "NoKind" [] [59]) (.cons (.v 0) .nil)) (.seq (.app 1 (.k (.str [78, 111, 75, 105, 110, 100]))) .nil) .nil) (.seq (.if_ (.not_ (.xt (.isc "ValueError" [59] []) (.cons (.v 0) .nil))) (.seq (.app 1 (.k (.str [111, 116, 104, 101, 114]))) .nil) .nil) (.seq (.retp 1) .nil)))))))))))))
def f_law_kinds_7 : FT := fun _ _ => .no
def m_law_kinds_7 : List RA.D → Rs (Bool × RA.D) := mk 1 2 f_law_kinds_7 i_law_kinds_7
/- 214 _law_refused_well(_law_caught, _law_machine_here); slots: 0=_law_caught 1=_law_machine_here 2=_law_seen 3=_law_word; calls: 213=law_kinds_7 171=law_act 15=law_is_word -/
def w_law_refused_well_2 : WS := (.st (.if_ (.or_ (.cmp .ne (.call 213 (.cons (.v 0) .nil)) (.lst (.cons (.k (.str [84, 111, 111, 71, 114, 101, 97, 116])) .nil))) (.or_ (.not_ (.bi .isLst (.cons (.xt (.fld 59 0 "words") (.cons (.v 0) .nil)) .nil))) (.cmp .ne (.bi .len (.cons (.xt (.fld 59 0 "words") (.cons (.v 0) .nil)) .nil)) (.k (.int 41))))) (.seq (.ret (.k (.bl false))) .nil) .nil) (.st (.own 2 (.dct .nil .nil)) (.st (.for_ (.one 3) (.ex (.xt (.fld 59 0 "words") (.cons (.v 0) .nil))) (.seq (.if_ (.or_ (.not_ (.call 15 (.cons (.v 3) (.cons (.ix (.v 1) (.k (.int 0))) .nil)))) (.cmp .gt (.bi .len (.cons (.v 3) .nil)) (.k (.int 100)))) (.seq (.ret (.k (.bl false))) .nil) .nil) (.seq (.put 2 (.call 171 (.cons (.v 1) (.cons (.v 3) .nil))) (.k (.bl true))) .nil))) (.clr (.xt (.fld 59 0 "words") (.cons (.v 0) .nil)) (.st (.ret (.cmp .eq (.bi .len (.cons (.pk 2) .nil)) (.k (.int 41)))) .nil)))))
def f_law_refused_well_2 : FT := fun n ds => match n, ds with | 213, ds => m_law_kinds_7 ds | 171, ds => m_law_act ds | 15, ds => m_law_is_word ds | _, _ => .no
@[simp] theorem f_law_refused_well_2_213 (ds : List RA.D) : f_law_refused_well_2 213 ds = m_law_kinds_7 ds := (rfl)
@[simp] theorem f_law_refused_well_2_171 (ds : List RA.D) : f_law_refused_well_2 171 ds = m_law_act ds := (rfl)
@[simp] theorem f_law_refused_well_2_15 (ds : List RA.D) : f_law_refused_well_2 15 ds = m_law_is_word ds := (rfl)
def m_law_refused_well_2 : List RA.D → Rs (Bool × RA.D) := mkW 2 4 f_law_refused_well_2 w_law_refused_well_2
local macro_rules | `(tactic| dsimp! [$xs,*]) => `(tactic| simp (disch := first | assumption | omega | (simp only [List.length_map, List.length_append, List.length_cons, List.length_nil, List.length_range, List.length_set]; omega) | decide | rfl) only [inn_lst, inn_dct, inn_ln, isLn_lst, isLn_dct, tstO_eq, x_seq, x_set, x_own, x_do, x_if, x_for, x_whl, x_ret, x_retN, x_pass, x_brk, x_cnt, x_rse, x_fgt, x_frz, x_retp, x_app, x_aug, x_unp, x_put, e_v, e_pk, e_k, e_gl, e_b, e_neg, e_cmp, e_and, e_or, e_not, e_ife, e_tup, e_lst, e_dct, e_dct1, e_lset, e_ix, e_sl, e_rv, rv_lst, e_out, e_bi, e_me, e_call, es_nil, es_cons, i_ex, i_rng1, i_rng2, i_zip, i_rev, valO_ok, pkO_ok, glO_ok, negO_ok, frzO_ok, retO_ok, augO_add, augO_sub, walkO_lst, walkO_tup, walkO_str, zipO_ok, zipI_ok, revO_ok, asB_ok, items_lst, items_tup, items_str, bindT_one, bindT_tup, setAll_nil, setAll_cons, forget_nil, forget_cons, prt_int, prt_out, isOut, keepOk_nil, keepOk_cons, recv_str, b_add, b_sub, c_lt, c_le, c_gt, c_ge, c_ltS, c_gtS, c_eqI, c_neI, c_eqS, c_neS, c_eqB, c_neB, c_isn, c_isnt, c_memS, c_nmemS, sl_lst, len_lst, len_tup, is_str, is_intI, is_boolI, is_boolB, tuple_lst, list_lst, list_tup, find_one, seqO_nx, seqO_no, seqO_rt, seqO_ex, seqO_bk, seqO_ct, seqO_seqO, seqO_ite, x_nil, sat_nx, sat_rt, sat_ex, sat_thru, sat_thru_ct, sat_nxt, sat_t1, sat_t1c, sat_t1r, sat_t1e, Rs.bind_ok, Rs.bind_ex, Rs.out_ok, Rs.out_ex, List.set_cons_succ, List.set_cons_zero, List.getElem?_cons_succ, List.getElem?_cons_zero, List.map_cons, List.map_nil, List.cons_append, List.nil_append, startG, List.reduceReplicate, List.length_cons, List.length_nil, Nat.reduceAdd, Nat.reduceSub, Nat.zero_add, Nat.add_zero, Nat.zero_le, Nat.reduceLeDiff, List.append_nil, reduceCtorEq, if_true, if_false, ite_true, ite_false, ne_eq, not_false_eq_true, not_true_eq_false, decide_true, decide_false, decide_not, Bool.not_true, Bool.not_false, Bool.and_true, Bool.true_and, Bool.and_self, Bool.false_eq_true, and_self, and_true, true_and, decide_eq_true_eq, Int.reduceEq, Int.cast_ofNat_Int, Int.reduceNe, Int.reduceLT, Int.reduceLE, Int.reduceNeg, Int.reduceAdd, Int.reduceSub, tgSlots, freeAt, List.all_cons, List.all_nil, isNon_non, isNon_str, isNon_int, isNon_bl, isNon_tup, isNon_lst, isNon_opq, fin_nx, fin_rt, fin_ex, e_xt, Bool.true_eq_false, eq_self, isc_non, isc_opq, x_xs, x_try, tryO_nx, tryO_rt, tryO_ex, hdG_as, hdG_cst, List.contains_cons, List.contains_nil, Nat.reduceBEq, beq_self_eq_true, up_nil, up_cons, tn_nx, tn_ct, tn_bk, tn_rt, tn_ex, b_fdiv, b_mod, max_two, min_two, ixl, ixt, ixl_last, ixl_zero, ixt_zero, ixs, ixs_last, ixT0, ixT1, ixT12, ixT22, ixL0, ixL1, ixM0, ixM1, ixM2, lenS, slS, rvS, catS, appL, unp2, unp3, r1, r2, r2one, e_comp2, it_nth, nat1, nat1l, natA, natM, natD, natR, natS, natS1, natE, natL, natLe, natL0, natN0, nat0, max_nats, Bool.not_eq_true', Bool.not_eq_false', List.length_map, List.length_append, List.length_range, Bool.true_or, Bool.false_or, Bool.or_true, Bool.or_false, Bool.and_false, Bool.false_and, Bool.or_self, decide_eq_false_iff_not, Nat.lt_irrefl, Bool.not_eq_eq_eq_not, not_true, not_false_iff, Nat.not_lt_zero, f_law_refused_well_2_213, f_law_refused_well_2_171, f_law_refused_well_2_15, f_table_2_193, $xs,*])
theorem kinds59b {fs : List RA.D} : m_law_kinds_7 [.opq 59 fs] = .ok (true, .lst [.str [84, 111, 111, 71, 114, 101, 97, 116]]) := by
  refine mk_of rfl ?_
  unfold i_law_kinds_7
  dsimp! [up_nil]
section
variable {s : List Nat} {rows : List (List Nat)} {marks : List Bool}
theorem refused_well2_ok (M : Mach s rows marks) (hn : rows.length ≤ 1000) {f : List (List Nat × List Nat)} {i j : Nat} (I : Bfs s.length (ast rows) (List.range rows.length) f i j) (h41 : 41 ≤ f.length) (h43 : f.length ≤ 43) :
    m_law_refused_well_2 [.opq 59 [.lst ((f.take 41).map fun p => .str (sp s p.2))], mD s rows marks] = .ok (false, .bl true) := by
  refine mkW_of rfl ?_
  unfold w_law_refused_well_2
  have L := M.ltrs
  have sl := L.le
  have fl : ((f.take 41).map fun p : List Nat × List Nat => RA.D.str (sp s p.2)).length = 41 := by rw [List.length_map, List.length_take]; omega
  have fl' : (f.take 41).length = 41 := by rw [List.length_take]; omega
  have ne : cmpD .ne (.lst [.str [84, 111, 111, 71, 114, 101, 97, 116]]) (.lst [.str [84, 111, 111, 71, 114, 101, 97, 116]]) = .ok false := by simp [cmpD, eqD, scalD, toP, toPs, SeqAt.shaped, PyData.eqv, PyData.eqvAll, PyData.canLay0, PyData.canLayAll0, PyData.depth, PyData.depthAll, PyData.strOk]
  have fd : ∀ {F : FT} {g : Fl} {d : RA.D}, xtD F (.fld 59 0 "words") [(g, .opq 59 [d])] = .ok (.val, d) := fun {F g d} => fld_opq rfl
  have d0 : RA.D.dct [] = .dct (kv (fun r : List Nat => RA.D.tup (r.map (fun (n : Nat) => RA.D.int n))) (kT [])) := rfl
  dsimp! [sat_wst, kinds59b, quiet_ok, ne, fd, isL_lst', fl, d0]
  refine for_map (fun G0 i G => ∃ (t3 : Option (Bool × RA.D)), G = up G0 [(2, some (true, .dct (kv (fun r : List Nat => RA.D.tup (r.map (fun (n : Nat) => RA.D.int n))) (kT ((f.take i).map (·.1)))))), (3, t3)]) ⟨none, rfl⟩ ?_ ?_
  · rintro k p G hp hk ⟨t3, rfl⟩
    refine ⟨_, rfl, ?_⟩
    rw [fl'] at hk
    have hp' : f[k]? = some p := by rw [List.getElem?_take] at hp; rw [if_pos hk] at hp; exact hp
    obtain ⟨a1, a2⟩ := bfs_act I p (List.mem_of_getElem? hp')
    have pl : p.2.length < f.length := (I.it p (List.mem_of_getElem? hp')).2.2
    have wl : (sp s p.2).length = p.2.length := sp_len
    have w1 := is_word_ok (sp_ov a2) (show (sp s p.2).length ≤ 100000 by omega)
    have w2 := act_ok M hn a2
    have nm : actL rows p.2 ∉ (f.take k).map (·.1) := by
      rw [← a1]
      intro hm
      have nd := I.nd
      obtain ⟨q, hq, e⟩ := List.mem_map.mp hm
      obtain ⟨m, hm⟩ := List.getElem?_of_mem hq
      have hmk : m < k := by
        have := (List.getElem?_eq_some_iff.mp hm).1
        rw [List.length_take] at this
        omega
      rw [List.getElem?_take, if_pos hmk] at hm
      have e1 : (f.map (·.1))[m]? = some p.1 := by rw [List.getElem?_map, hm]; exact congrArg some e
      have e2 : (f.map (·.1))[k]? = some p.1 := by rw [List.getElem?_map, hp']; rfl
      have := (List.getElem?_inj (by rw [List.length_map]; omega) nd).mp (e1.trans e2.symm)
      omega
    have g1 := fun G => kT_put (G := G) (i := 2) (g := .val) keyL (l := (f.take k).map (·.1)) (a := actL rows p.2) (by rw [List.length_map, List.length_take]; omega) nm
    have h100 : ¬ (100 : Int) < ((sp s p.2).length : Int) := by omega
    dsimp! [w1, w2, g1, h100]
    refine ⟨some (false, .str (sp s p.2)), ?_⟩
    have et : (f.take (k + 1)).map (·.1) = (f.take k).map (·.1) ++ [actL rows p.2] := by
      rw [List.take_add_one, hp', List.map_append, a1.symm]; rfl
    rw [et]
  · rintro G ⟨t3, rfl⟩
    have kl := keyL.len (kT ((f.take 41).map (·.1)))
    have kl2 : (kT ((f.take 41).map (·.1))).length = 41 := by rw [kT_len, List.length_map, fl']
    have ni : ((f.take 41).map fun p : List Nat × List Nat => RA.D.str (sp s p.2)).all isIntD = false := by
      rw [List.all_eq_false]
      obtain ⟨x, hx⟩ : ∃ x, x ∈ f.take 41 := List.exists_mem_of_length_pos (by rw [fl']; omega)
      exact ⟨_, List.mem_map.mpr ⟨x, hx, rfl⟩, Bool.false_ne_true⟩
    have kd : killS (some (false, RA.D.opq 59 [.lst ((f.take 41).map fun p => .str (sp s p.2))])) = none := kill_drop rfl
    have km := kill_keep (noL_mD (s := s) (rows := rows) (marks := marks))
    have kk := kill_keep (noL_kT ((f.take 41).map (·.1)))
    rw [fl']
    dsimp! [w_clr, fd, clrW_ok, ni, kill_cons, kill_nil, kd, km, kk, sat_wst, kl, kl2]
    try (cases t3 <;> dsimp! [w_clr, fd, clrW_ok, ni, kill_cons, kill_nil, kd, km, kk, sat_wst, kl, kl2])
end
section
variable {s : List Nat} {rows : List (List Nat)} {marks : List Bool} {f : List (List Nat × List Nat)}
/-- the steps behind and ahead, as places -/
def pre (rows : List (List Nat)) (a : List Nat) (k : Nat) : List Nat := rows.map fun r => nth a (nth r k)
end
end RA
/-! RAI: instances of classes without __init__, made. -/
/-! RAJ: t + u of tuples; for k, v in d.items(). -/
/-! RAM: list(zip(a, b, c)): the list holds each tuple, so each is a new one. -/
namespace RZ3
open PySem PySem.W PySem.Calls PyProof.Rows PySem.Spec
section
variable {prog : Program} {w : World} {A : Around} {E : Value → Shared → Prop} {s : Shared} {z TI TO i1 i2 i3 T L : Addr} {fp1 fp2 fp3 : List Addr} {n1 n2 n3 i : Nat} {P1 P2 P3 : Nat → Value → Prop} {St1 St2 St3 : Nat → Heap → Prop} {b : Bool} {oT : Obj}
/-- as it stands: L the list that is filled -/
def ZSt (z TI TO i1 i2 i3 L : Addr) (St1 St2 St3 : Nat → Heap → Prop) (i : Nat) (h : Heap) : Prop :=
  ((IsZip h z TI TO .none ∧ ∃ a1 a2 a3, IsTupOf3 h TO a1 a2 a3) ∨ ∃ T b oT, IsZipHeld h z TI TO T b ∧ h.get? T = some oT ∧ T ≠ z ∧ T ≠ TO ∧ T ≠ i1 ∧ T ≠ i2 ∧ T ≠ i3 ∧ T ≠ L) ∧ IsTupOf3 h TI (.ref i1) (.ref i2) (.ref i3) ∧ St1 i h ∧ St2 i h ∧ St3 i h
theorem ZSt.typeIs (h : ZSt z TI TO i1 i2 i3 L St1 St2 St3 i s.heap) : s.TypeIs (.ref z) "zip" := by
  rcases h.1 with ⟨h, _⟩ | ⟨T, b, oT, h, _⟩
  · exact ⟨_, h, rfl⟩
  · exact ⟨_, h, rfl⟩
theorem ZSt.keep {h h' : Heap} (S : ZipSep3 z TI TO i1 i2 i3 fp1 fp2 fp3) (D1 : Draws prog w A.in1 i1 fp1 n1 P1 St1) (D2 : Draws prog w A.in1 i2 fp2 n2 P2 St2) (D3 : Draws prog w A.in1 i3 fp3 n3 P3 St3) (Lf : L ≠ z ∧ L ≠ TI ∧ L ≠ TO ∧ L ∉ fp1 ∧ L ∉ fp2 ∧ L ∉ fp3)
    (st : ZSt z TI TO i1 i2 i3 L St1 St2 St3 i h) (k : ∀ c o, c ≠ L → h.get? c = some o → h'.get? c = some o) : ZSt z TI TO i1 i2 i3 L St1 St2 St3 i h' := by
  obtain ⟨l1, l2, l3, l4, l5, l6⟩ := Lf
  obtain ⟨st0, hTI, s1, s2, s3⟩ := st
  refine ⟨?_, k _ _ (Ne.symm l2) hTI, D1.frame _ _ _ s1 fun b hb o e => k b o (fun q => l4 (q ▸ hb)) e, D2.frame _ _ _ s2 fun b hb o e => k b o (fun q => l5 (q ▸ hb)) e, D3.frame _ _ _ s3 fun b hb o e => k b o (fun q => l6 (q ▸ hb)) e⟩
  rcases st0 with ⟨hz, a1, a2, a3, hTO⟩ | ⟨T, b, oT, hz, hT, r1, r2, r3, r4, r5, r6⟩
  · exact .inl ⟨k _ _ (Ne.symm l1) hz, a1, a2, a3, k _ _ (Ne.symm l3) hTO⟩
  · exact .inr ⟨T, b, oT, k _ _ (Ne.symm l1) hz, k _ _ r6 hT, r1, r2, r3, r4, r5, r6⟩
/-- the tuples so far -/
structure Gath (P1 P2 P3 : Nat → Value → Prop) (lo : Addr) (h : Heap) (as : List Addr) : Prop where
  above : ∀ a ∈ as, lo < a
  nd : as.Nodup
  tups : ∀ (j : Nat) (a : Addr), as[j]? = some a → ∃ x1 x2 x3, P1 j x1 ∧ P2 j x2 ∧ P3 j x3 ∧ IsTupOf3 h a x1 x2 x3
theorem Gath.keep {h h' : Heap} {as : List Addr} (g : Gath P1 P2 P3 L h as) (k : ∀ c o, L < c → h.get? c = some o → h'.get? c = some o) : Gath P1 P2 P3 L h' as := ⟨g.above, g.nd, fun j a hj => by
  obtain ⟨x1, x2, x3, p1, p2, p3, e⟩ := g.tups j a hj
  exact ⟨x1, x2, x3, p1, p2, p3, k a _ (g.above a (List.mem_of_getElem? hj)) e⟩⟩
end
end RZ3
/-! RAC: functions made within defs: what they are as data, that they do what the small language says. -/
namespace RA
open PySem PySem.Spec PyProof.Rows L2
variable [Tabs] [LentT]
/-! ### cells that are told for a while -/
def addC (Cs : Addr → Option Obj) (H : Hp) : Hp := fun b => match Cs b with | some o => some (.frz o (.own b)) | none => H b
section
variable {Cs : Addr → Option Obj} {H H' : Hp} {b : Addr} {o : Obj}
theorem addC_some (h : Cs b = some o) : addC Cs H b = some (.frz o (.own b)) := by unfold addC; rw [h]
theorem addC_none (h : Cs b = none) : addC Cs H b = H b := by unfold addC; rw [h]
variable {P : Program} {w : World} {h : Heap}
end
/-! ### data where cells come and go -/
/-- cells -/
def IsCs (Cs : Addr → Option Obj) : Prop := ∀ b o, Cs b = some o → ∃ v, o.data = .cell v
section
variable {Cs : Addr → Option Obj} {c : Cfg} {B : Addr → Prop} {H H' : Hp}
theorem same_add (hn : ∀ b o, Cs b = some o → H b = none) : Same H (addC Cs H) := Same.all fun b u e => by
  cases q : Cs b with
  | none => rw [addC_none q]; exact e
  | some o => rw [hn b o q] at e; cases e
end
/-! ### functions made within defs -/
/-- its words -/
structure CloS where
  name : Str
  qual : Str
  params : Arguments
  body : FuncBody
  scope : Scope
  fr : List Str
abbrev CloS.fd (F : CloS) (cl : List (Str × Addr)) (c' : Addr) (doc pm ctv : Value) : FuncData :=
  { name := F.name, qualname := F.qual, params := F.params, body := F.body, scope := F.scope, globals := mainGlobals, closure := cl, defaults := .none, kwdefaults := .none, doc, pyModule := pm, annotations := none, code := .ref c', closureTuple := ctv, builtins := builtinsNs }
def FnB (a : Addr) (F : CloS) (cl : List (Str × Addr)) (c' : Addr) : HO := .ext fun h => ∃ (od : Option Addr) (sl : Array (Option Value)) (doc pm ctv : Value), h.get? a = some (⟨.type "function", od, .func (F.fd cl c' doc pm ctv), sl⟩ : Obj)
/-- at a stands the function F, whose captured names hold vs -/
def CloAt (F : CloS) (B : Addr → Prop) (H : Hp) (vs : List V) (a : Addr) : Prop :=
  ¬ B a ∧ ∃ (cl : List (Str × Addr)) (c' : Addr), H a = some (FnB a F cl c') ∧ CodeF H c' F.qual ∧ (∀ x y c, cl.lookup x = some c → cl.lookup y = some c → x = y) ∧ (∀ y c, cl.lookup y = some c → y ∈ F.fr) ∧ vs.length = F.fr.length ∧
    ∀ (i : Nat) (y : Str), F.fr[i]? = some y → ∃ (c : Addr) (oc : Obj) (u : Value) (v : V), cl.lookup y = some c ∧ H c = some (.frz oc (.own c)) ∧ oc.data = .cell (some u) ∧ vs[i]? = some v ∧ RelV v u
theorem CloAt.keep {F : CloS} {B : Addr → Prop} {H H' : Hp} {vs : List V} {a : Addr} (h : CloAt F B H vs a) (k : ∀ b o, ¬ B b → H b = some o → NoT o → H' b = some o) (kf : ∀ b o u, H b = some (.frz o u) → H' b = some (.frz o u)) : CloAt F B H' vs a := by
  obtain ⟨nb, cl, c', h1, ⟨oc, us, t, h2, r⟩, h3, h4, h5, h6⟩ := h
  refine ⟨nb, cl, c', k _ _ nb h1 trivial, ⟨oc, us, t, kf _ _ _ h2, r⟩, h3, h4, h5, fun i y e => ?_⟩
  obtain ⟨c, oc, u, v, e1, e3, e4⟩ := h6 i y e
  exact ⟨c, oc, u, v, e1, kf _ _ _ e3, e4⟩
theorem CloAt.grow {F : CloS} {B B' : Addr → Prop} {H : Hp} {vs : List V} {a : Addr} (h : CloAt F B H vs a) (g : ∀ b, B' b → B b ∨ H b = none) : CloAt F B' H vs a := by
  obtain ⟨nb, cl, c', h1, r⟩ := h
  exact ⟨fun z => (g a z).elim nb fun q => (by rw [h1] at q; cases q), cl, c', h1, r⟩
/-! ### what such a function promises -/
/-- the function F, called, does what m tells of its arguments and what it has captured -/
def CloRun (c : Cfg) (k : Nat) (F : CloS) (m : List RA.D → Rs (Bool × RA.D)) : Prop := ∀ (A : Around) (outer : List Env) (s : Shared) (H : Hp) (us : List Value) (vs caps : List V) (a : Addr) (B : Addr → Prop) (Q : VK) (E : XK),
  Room k A → Env0 c.P c.w c.K c.mg c.base A outer s H → CloAt F B H caps a → Vals vs us → spOf c (cellF m) (vs ++ caps) H Q E → codeAny (model c.P c.w) A (.call (.ref a) ⟨us, []⟩) (CR (L2.CX c.P c.w) outer c.P c.w H s Q E) s
def CloOk (c : Cfg) (k n : Nat) (m : List RA.D → Rs (Bool × RA.D)) : Prop := ∃ F : CloS, (∀ (B : Addr → Prop) (H : Hp) (vs : List V) (a : Addr), c.op B H n vs a → CloAt F B H vs a) ∧ CloRun c k F m
theorem CloOk.mono {c : Cfg} {j k n : Nat} {m : List RA.D → Rs (Bool × RA.D)} (h : CloOk c j n m) (e : j ≤ k) : CloOk c k n m := by
  obtain ⟨F, h1, h2⟩ := h
  exact ⟨F, h1, fun A outer s H us vs caps a B Q E hr => h2 A outer s H us vs caps a B Q E (hr.mono e)⟩
/-! ### calls of a local that holds such a function -/
/-! ### such a function is made -/
/-! ### bodies that make functions at their end -/
/-- a def statement of such a function -/
structure CloD (S : Stat) (sc : Scope) (nm : Nat → Nat → Str) (q : Str) (F : CloS) (i : Nat) (cs : List Nat) (d : Stmt) : Prop where
  eq : ∃ (pos : Pos) (body : List Stmt), d = .FunctionDef F.name F.params body [] none [] F.scope none F.name pos ∧ F.body = .stmts body ∧ nm pos.line pos.col = F.qual
  qu : F.qual = q ++ F.name
  df : F.params.defaults = [] ∧ F.params.kw_defaults = []
  an : ∀ env : Env, annTrees F.params none env = []
  nm : okN S sc i F.name = true
  fr : (F.scope.names.all fun y => !decide (y.2 = .free) || decide (y.1 ∈ F.fr)) = true
  ce : (F.fr.all fun y => decide (sc.names.lookup y = some .cell) && decide ((y, NameKind.free) ∈ F.scope.names)) = true
  sl : cs.map (fun j => S.N[j]?) = F.fr.map some
section
variable {S : Stat} {X : Cx} {O : OpT} {W : WX} {sc : Scope} {xs : List (Nat × Str)} {B : Addr → Prop} {n : Nat} {nm : Nat → Nat → Str} {q : Str} {F : CloS} {i : Nat} {cs : List Nat} {d : Stmt}
theorem CloD.mem (D : CloD S sc nm q F i cs d) {y : Str} (h : (y, NameKind.free) ∈ F.scope.names) : y ∈ F.fr := by
  have := List.all_eq_true.mp D.fr _ h
  simpa using this
theorem CloD.cell (D : CloD S sc nm q F i cs d) {y : Str} (h : y ∈ F.fr) : sc.names.lookup y = some .cell ∧ (y, NameKind.free) ∈ F.scope.names := by
  have := List.all_eq_true.mp D.ce _ h
  simpa using this
theorem CloD.has (D : CloD S sc nm q F i cs d) (C : CtxB S X O W sc) (ok : X.Ok) : ∀ y ∈ F.scope.names, y.2 = .free → ∃ c, X.env.cells.lookup y.1 = some c := fun ⟨y, k⟩ hy e => by
  have e : k = .free := e
  subst e
  refine ok.has y (.inl ?_)
  show X.env.scope.names.lookup y = _
  rw [C.sc]; exact (D.cell (D.mem hy)).1
/-- what it captures are cells of the maker's -/
theorem CloD.look (D : CloD S sc nm q F i cs d) (C : CtxB S X O W sc) (ok : X.Ok) : (∀ y c, (cloFrom X.env.cells F.scope.names []).lookup y = some c → X.env.cells.lookup y = some c ∧ y ∈ F.fr) ∧ ∀ y ∈ F.fr, ∀ c, X.env.cells.lookup y = some c → (cloFrom X.env.cells F.scope.names []).lookup y = some c := by
  have h1 : ∀ y c, (cloFrom X.env.cells F.scope.names []).lookup y = some c → X.env.cells.lookup y = some c ∧ y ∈ F.fr := fun y c e => by
    rcases cloFrom_mem (PySem.mem_of_lookup e) with z | ⟨z1, z2⟩
    · cases z
    · obtain ⟨c2, hc⟩ := D.has C ok _ z1 rfl
      have hc : X.env.cells.lookup y = some c2 := hc
      rw [hc] at z2
      exact ⟨by rw [hc]; exact congrArg some z2.symm, D.mem z1⟩
  refine ⟨h1, fun y hy c hc => ?_⟩
  obtain ⟨c2, e2⟩ := mem_lookup (cloFrom_has (cells := X.env.cells) (acc := []) (D.cell hy).2)
  rw [e2]
  rw [(h1 y c2 e2).1] at hc
  exact hc
/-- what is told of the cells at a call -/
structure CelAt (X : Cx) (σ : L2.St) (H : Hp) (Cs : Addr → Option Obj) : Prop where
  is : IsCs Cs
  no : ∀ b o, Cs b = some o → H b = none
  ok : X.Ok
  val : ∀ (j : Nat) (y : Str) (v : V), X.N[j]? = some y → σ[j]? = some (some v) → X.env.scope.names.lookup y = some .cell → ∃ c o u, X.env.cells.lookup y = some c ∧ Cs c = some o ∧ o.data = .cell (some u) ∧ RelV v u
theorem CodeF.same {H H' : Hp} {c : Addr} {q : Str} (h : CodeF H c q) (s : Same H H') : CodeF H' c q := by
  obtain ⟨oc, vs, t, e, r⟩ := h
  exact ⟨oc, vs, t, s.keep _ _ e trivial, r⟩
/-- the function stands there, with the cells told -/
theorem CloD.at (D : CloD S sc nm q F i cs d) (C : CtxB S X O W sc) {σ : L2.St} {H : Hp} {Cs : Addr → Option Obj} (K : CelAt X σ H Cs) {Z : Addr → Prop} {f c' : Addr} {caps : List V} (nz : ¬ Z f) (hf : H f = some (FnB f F (cloFrom X.env.cells F.scope.names []) c')) (hc : CodeF H c' F.qual)
    (hl : caps.length = cs.length) (hv : ∀ (m j : Nat), cs[m]? = some j → ∃ v, caps[m]? = some v ∧ σ[j]? = some (some v)) : CloAt F Z (addC Cs H) caps f := by
  have up : Same H (addC Cs H) := same_add K.no
  obtain ⟨l1, l2⟩ := D.look C K.ok
  have lens : cs.length = F.fr.length := by have := congrArg List.length D.sl; rwa [List.length_map, List.length_map] at this
  refine ⟨nz, _, c', up.keep _ _ hf trivial, hc.same up, fun x y c e1 e2 => K.ok.inj x y c (l1 x c e1).1 (l1 y c e2).1, fun y c e => (l1 y c e).2, by rw [hl, lens], fun m y e => ?_⟩
  have hm : m < cs.length := by rw [lens]; exact (List.getElem?_eq_some_iff.mp e).1
  have e1 : S.N[cs[m]]? = some y := by
    have z := congrArg (fun l => l[m]?) D.sl
    simp only [List.getElem?_map, e, List.getElem?_eq_getElem hm, Option.map_some] at z
    exact Option.some.inj z
  obtain ⟨v, hv1, hv2⟩ := hv m _ (List.getElem?_eq_getElem hm)
  have yf := List.mem_of_getElem? e
  obtain ⟨c, o, u, k1, k2, k3, k4⟩ := K.val cs[m] y v (by rw [C.N]; exact e1) hv2 (by rw [C.sc]; exact (D.cell yf).1)
  exact ⟨c, o, u, v, l2 y yf c k1, addC_some k2, k3, hv1, k4⟩
end
/-! ### the bodies -/
/-! ### tables of the head -/
/-! the tables, one after another -/
/-! ### for the laws' last texts -/
/-! parts of the text -/
end RA
/-! RAN: sorted(x, key=lambda w: ..), the keys numbers that the program's defs tell. -/
/-! RAO: bodies that sort by a lambda that captures. -/
namespace RA
open PySem PySem.Spec PyProof.Rows L2
variable [Tabs] [LentT]
/-! ### the mirror -/
/-! ### what is captured -/
structure CapD (S : Stat) (sc : Scope) (F : CloS) (cs : List Nat) : Prop where
  fr : (F.scope.names.all fun y => !decide (y.2 = .free) || decide (y.1 ∈ F.fr)) = true
  ce : (F.fr.all fun y => decide (sc.names.lookup y = some .cell) && decide ((y, NameKind.free) ∈ F.scope.names)) = true
  sl : cs.map (fun j => S.N[j]?) = F.fr.map some
section
variable {S : Stat} {X : Cx} {O : OpT} {W : WX} {sc : Scope} {xs : List (Nat × Str)} {B : Addr → Prop} {nm : Nat → Nat → Str} {q : Str} {F : CloS} {cs : List Nat}
theorem CapD.mem (D : CapD S sc F cs) {y : Str} (h : (y, NameKind.free) ∈ F.scope.names) : y ∈ F.fr := by
  have := List.all_eq_true.mp D.fr _ h
  simpa using this
theorem CapD.cell (D : CapD S sc F cs) {y : Str} (h : y ∈ F.fr) : sc.names.lookup y = some .cell ∧ (y, NameKind.free) ∈ F.scope.names := by
  have := List.all_eq_true.mp D.ce _ h
  simpa using this
theorem CapD.has (D : CapD S sc F cs) (C : CtxB S X O W sc) (ok : X.Ok) : ∀ y ∈ F.scope.names, y.2 = .free → ∃ c, X.env.cells.lookup y.1 = some c := fun ⟨y, k⟩ hy e => by
  have e : k = .free := e
  subst e
  refine ok.has y (.inl ?_)
  show X.env.scope.names.lookup y = _
  rw [C.sc]; exact (D.cell (D.mem hy)).1
theorem CapD.look (D : CapD S sc F cs) (C : CtxB S X O W sc) (ok : X.Ok) : (∀ y c, (cloFrom X.env.cells F.scope.names []).lookup y = some c → X.env.cells.lookup y = some c ∧ y ∈ F.fr) ∧ ∀ y ∈ F.fr, ∀ c, X.env.cells.lookup y = some c → (cloFrom X.env.cells F.scope.names []).lookup y = some c := by
  have h1 : ∀ y c, (cloFrom X.env.cells F.scope.names []).lookup y = some c → X.env.cells.lookup y = some c ∧ y ∈ F.fr := fun y c e => by
    rcases cloFrom_mem (PySem.mem_of_lookup e) with z | ⟨z1, z2⟩
    · cases z
    · obtain ⟨c2, hc⟩ := D.has C ok _ z1 rfl
      have hc : X.env.cells.lookup y = some c2 := hc
      rw [hc] at z2
      exact ⟨by rw [hc]; exact congrArg some z2.symm, D.mem z1⟩
  refine ⟨h1, fun y hy c hc => ?_⟩
  obtain ⟨c2, e2⟩ := mem_lookup (cloFrom_has (cells := X.env.cells) (acc := []) (D.cell hy).2)
  rw [e2]
  rw [(h1 y c2 e2).1] at hc
  exact hc
theorem CapD.at (D : CapD S sc F cs) (C : CtxB S X O W sc) {σ : L2.St} {H : Hp} {Cs : Addr → Option Obj} (K : CelAt X σ H Cs) {Z : Addr → Prop} {f c' : Addr} {caps : List V} (nz : ¬ Z f) (hf : H f = some (FnB f F (cloFrom X.env.cells F.scope.names []) c')) (hc : CodeF H c' F.qual)
    (hl : caps.length = cs.length) (hv : ∀ (m j : Nat), cs[m]? = some j → ∃ v, caps[m]? = some v ∧ σ[j]? = some (some v)) : CloAt F Z (addC Cs H) caps f := by
  have up : RA.Same H (addC Cs H) := same_add K.no
  obtain ⟨l1, l2⟩ := D.look C K.ok
  have lens : cs.length = F.fr.length := by have := congrArg List.length D.sl; rwa [List.length_map, List.length_map] at this
  refine ⟨nz, _, c', up.keep _ _ hf trivial, hc.same up, fun x y c e1 e2 => K.ok.inj x y c (l1 x c e1).1 (l1 y c e2).1, fun y c e => (l1 y c e).2, by rw [hl, lens], fun m y e => ?_⟩
  have hm : m < cs.length := by rw [lens]; exact (List.getElem?_eq_some_iff.mp e).1
  have e1 : S.N[cs[m]]? = some y := by
    have z := congrArg (fun l => l[m]?) D.sl
    simp only [List.getElem?_map, e, List.getElem?_eq_getElem hm, Option.map_some] at z
    exact Option.some.inj z
  obtain ⟨v, hv1, hv2⟩ := hv m _ (List.getElem?_eq_getElem hm)
  have yf := List.mem_of_getElem? e
  obtain ⟨c, o, u, k1, k2, k3, k4⟩ := K.val cs[m] y v (by rw [C.N]; exact e1) hv2 (by rw [C.sc]; exact (D.cell yf).1)
  exact ⟨c, o, u, v, l2 y yf c k1, addC_some k2, k3, hv1, k4⟩
/-! ### bodies that sort -/
end
/-! ### for the laws' last texts -/
theorem CloRun.mono {c : Cfg} {j k : Nat} {F : CloS} {m : List RA.D → Rs (Bool × RA.D)} (h : CloRun c j F m) (e : j ≤ k) : CloRun c k F m := fun A outer s H us vs caps a B Q E hr => h A outer s H us vs caps a B Q E (hr.mono e)
/-! ### tables of methods -/
end RA
/-! RAP: further statements: a list unpacked; closures and instances beside one another. -/
/-! RAG: d.get(k, v) of a dict whose keys are tuples; d.setdefault(k, v) in a test. -/
/-! RAU: a def that drops the script, and clears lists that were handed out to it. -/
namespace RA
open PySem PySem.Spec PyProof.Rows L2
section
variable [Tabs] [LentT]
section
variable {c c' : Cfg} {B : Addr → Prop} {H : Hp}
mutual
theorem Rep.noL_to (hK : c'.K = c.K) : ∀ {d : RA.D} {v : V}, noL d = true → Rep c B H d v → Rep c' B H d v
  | _, _, _, .non => .non
  | _, _, _, .bl b => .bl b
  | _, _, _, .int i => .int i
  | _, _, _, .str s => .str s
  | _, _, h, .tup t r => .tup (hK ▸ t) (Reps.noL_to hK (by simpa only [noL] using h) r)
  | _, _, h, .lst _ _ => by simp [noL] at h
  | _, _, h, .dctK _ _ _ => by simp [noL] at h
  | _, _, h, .dctT _ _ _ => by simp [noL] at h
  | _, _, h, .opq _ _ => by simp [noL] at h
theorem Reps.noL_to (hK : c'.K = c.K) : ∀ {ds : List RA.D} {vs : List V}, noLs ds = true → Reps c B H ds vs → Reps c' B H ds vs
  | _, _, _, .nil => .nil
  | _, _, h, .cons r t => by
    simp only [noLs, Bool.and_eq_true] at h
    exact .cons (r.noL_to hK h.1) (Reps.noL_to hK h.2 t)
end
theorem StOk.free_to {G : Ev} {σ : L2.St} (hK : c'.K = c.K) (h : freeG G = true) (Su : StOk c B G σ H) : StOk c' B G σ H := by
  unfold freeG at h
  have no : ∀ i d, G[i]? ≠ some (some (true, d)) := fun i d e => by
    have := List.all_eq_true.mp h _ (List.mem_of_getElem? e)
    cases this
  refine ⟨Su.len, Su.tr, Su.tab, Su.apart, Su.uniq, fun i d e => ?_, fun i d e => absurd e (no i d)⟩
  obtain ⟨v, h1, h2⟩ := Su.val i d e
  have := List.all_eq_true.mp h _ (List.mem_of_getElem? e)
  exact ⟨v, h1, h2.noL_to hK this⟩
theorem Wk.free_to {H0 : Hp} {G : Ev} {σ : L2.St} (hK : c'.K = c.K) (h : freeG G = true) (w : Wk c B H0 G σ H) : Wk c' B H0 G σ H := ⟨w.su.free_to hK h, w.kx, w.fr⟩
end
/-- where the script is dropped -/
def swp : WS → Bool
  | .st _ r => swp r
  | .fgt _ r => swp r
  | .swi _ => true
  | _ => false
def tWr (c : Cfg) (B : Addr → Prop) (H0 : Hp) (f : Ev → Out) : TS := fun D σ H => ∃ G b, Wk c B H0 G σ H ∧ f G = .rt false (.bl b) ∧ ∀ H', KX B H0 H' → D.rt (.bl b) H'
section
variable {O O' : OpT} {S : Stat} {X : Cx} {W : WX} {sc : Scope} {xs : List (Nat × Str)} {B : Addr → Prop} {n : Nat} {H0 : Hp} {ks : List Nat}
theorem sw_ok (C : CtxS S X O W sc xs) (C' : CtxS S X O' W sc xs) (hs : ¬ O'.scr) (hks' : ∀ f, ks.contains f = true → FOkK (cfg X O') S.nm S.k f (S.F f)) : ∀ (p : WS) (sts : List Stmt), swp p = true → okW S xs ks sc p sts = true → PSs X sts (tWr (cfg X O) B H0 (wx S.F n p))
  | .st s r, sts, hp, h => by
    cases sts with
    | nil => simp [okW] at h
    | cons st sts =>
      simp only [okW, Bool.and_eq_true] at h
      refine (pss_cons (PS.any fun G => st_ps (n := n) C h.1 G) (sw_ok C C' hs hks' r sts hp h.2)).weak fun D σ H ⟨G, b, w, e, q⟩ => ⟨G, w, ?_⟩
      have e : stO (wx S.F n r) (exec S.F n s G) = .rt false (.bl b) := e
      cases ex : exec S.F n s G with
      | nx G' => rw [ex] at e; exact fun σ' H' w' => ⟨G', b, w', e, q⟩
      | rt o d =>
        rw [ex] at e
        cases o with
        | true => cases e
        | false =>
          cases d <;> first | (cases e; done) | skip
          cases e
          exact q
      | no => rw [ex] at e; cases e
      | bk _ => rw [ex] at e; cases e
      | ct _ => rw [ex] at e; cases e
      | ex _ _ _ => rw [ex] at e; cases e
  | .fgt is r, sts, hp, h => by
    have h : okW S xs ks sc r sts = true := by cases sts <;> exact h
    refine (sw_ok C C' hs hks' r sts hp h).weak fun D σ H ⟨G, b, w, e, q⟩ => ?_
    obtain ⟨k1, k2⟩ := w.su.forgot is
    exact ⟨_, b, w.step k1 (Step.of (Same.refl H) fun a z => .inl (k2 a z)), e, q⟩
  | .swi r, sts, hp, h => by
    have h : okW S xs ks sc r sts = true := by cases sts <;> exact h
    refine (ws_ok (B := B) (n := n) (H0 := H0) C' hks' r sts (fun _ => hs) h).weak fun D σ H ⟨G, b, w, e, q⟩ => ?_
    have e : (if freeG G = true then wx S.F n r G else .no) = .rt false (.bl b) := e
    split at e
    · rename_i hf
      refine ⟨G, Wk.free_to (c := cfg X O) (c' := cfg X O') rfl hf w, ?_⟩
      rw [e]
      exact q
    · cases e
  | .nil, _, hp, _ => by cases hp
  | .frz _ _, _, hp, _ => by cases hp
  | .cas _ _ _, _, hp, _ => by cases hp
  | .kif _ _ _ _, _, hp, _ => by cases hp
  | .kret _ _ _, _, hp, _ => by cases hp
  | .clr _ _, _, hp, _ => by cases hp
  | .rng _ _ _ _, _, hp, _ => by cases hp
  | .two _ _ _ _ _ _ _ _ _, _, hp, _ => by cases hp
  | .cle _ _ _ _ _ _ _, _, hp, _ => by cases hp
end
section
variable {O O' : OpT} {P : Program} {w : World} {K : PySem.W.Frag} {mg : Str → Option Value} {base : Heap}
/-- what a def leans on -/
structure FHy (S : Stat) (xs : List (Nat × Str)) (ks : List Nat) (O : OpT) (P : Program) (w : World) (K : PySem.W.Frag) (mg : Str → Option Value) (base : Heap) : Prop where
  bs : ∀ x, S.bs.contains x = true → mg x = none
  us : ∀ n, S.us.contains n = true → FOk { toOpT := O, P := P, w := w, K := K, mg := mg, base := base } S.nm S.k n (S.F n)
  kk : ∀ n, ks.contains n = true → FOkK { toOpT := O, P := P, w := w, K := K, mg := mg, base := base } S.nm S.k n (S.F n)
  gs : ∀ n, S.gs.contains n = true → GlOk { toOpT := O, P := P, w := w, K := K, mg := mg, base := base } S.nm n (S.F n [])
  xs : ∀ (X : Cx), X.K = K → X.mg = mg → ∀ c x, xs.contains (c, x) = true → ExOk X O c x
  xt : ∀ t, S.xts.contains t = true → XtOk S { toOpT := O, P := P, w := w, K := K, mg := mg, base := base } t
  yt : ∀ t, S.yts.contains t = true → YtOk S { toOpT := O, P := P, w := w, K := K, mg := mg, base := base } t
  tr : ∀ y ys ns, S.trs.contains (y, ys, ns) = true → TrOk K mg O y ys ns
theorem fnok_ofU {S : Stat} {xs : List (Nat × Str)} {ks : List Nat} {n : Nat} {m : List RA.D → Rs (Bool × RA.D)} {qual : Str} {st : Stmt} {f : Addr} {fd : FuncData} {ps : List Str} {ws : WS} (F : Fun K (S.nm n) qual st f fd) (Sc : FnScope S.N ps (defScope st))
    (ok : okW S xs ks (defScope st) ws (defBody st) = true) (hp : swp ws = true) (h1 : FHy S xs ks O P w K mg base) (h2 : FHy S xs ks O' P w K mg base) (hs : ¬ O'.scr)
    (hrun : ∀ ds, m ds ≠ .no → ds.length = ps.length ∧ ∃ fuel, wrun S.F fuel S.N.length ws ds = m ds) : FnOk P w K mg base (L2.CX P w) (S.k + 1) f fd ps (spK { toOpT := O, P := P, w := w, K := K, mg := mg, base := base } m) := by
  refine F.okX Sc (fun vs H Q E h => ?_) fun cdv A outer s H vs Q E hr hsp => ?_
  · obtain ⟨B, ds, b, hB, hT, hr, h, q⟩ := h
    rw [← hr.length]; exact (hrun ds (by rw [h]; intro z; cases z)).1
  · obtain ⟨B, ds, b, hB, hT, hrs, h, q⟩ := hsp
    obtain ⟨hl, fuel, hrun⟩ := hrun ds (by rw [h]; intro z; cases z)
    have hpl : ps.length ≤ S.N.length := by have := congrArg List.length Sc.pre; rw [List.length_take] at this; omega
    let X := cxOf (L2.CX P w) P w K mg base S.N qual (defScope st) f cdv A outer s H E
    have C : CtxS S X O (fun cls d _ H' => E cls d H') (defScope st) xs :=
      { N := rfl, nd := Sc.nd, kd := Sc.kind, sc := rfl, calm := rfl, room := hr, tk := takes_of rfl rfl rfl rfl, bs := h1.bs, fs := h1.us, gs := h1.gs, po := passes_of rfl, fn := fun _ _ => rfl, xs := h1.xs X rfl rfl, xt := h1.xt, yt := h1.yt, tr := h1.tr, stk := rfl, fra := rfl, exn := rfl }
    have C' : CtxS S X O' (fun cls d _ H' => E cls d H') (defScope st) xs :=
      { N := rfl, nd := Sc.nd, kd := Sc.kind, sc := rfl, calm := rfl, room := hr, tk := takes_of rfl rfl rfl rfl, bs := h2.bs, fs := h2.us, gs := h2.gs, po := passes_of rfl, fn := fun _ _ => rfl, xs := h2.xs X rfl rfl, xt := h2.xt, yt := h2.yt, tr := h2.tr, stk := rfl, fra := rfl, exn := rfl }
    refine ⟨_, sw_ok (O := O) (B := B) (H0 := H) (n := fuel) C C' hs h2.kk ws _ hp ok, startG S.N.length ds, b, ?_⟩
    obtain ⟨Su, no⟩ := start_get (N := S.N) (c := cfg X O) (B := B) (H := H) hrs.length hrs (by rw [hl]; exact hpl) hB hT
    refine ⟨⟨Su, KX.refl, fun a z => absurd z (no a)⟩, ?_, q⟩
    rw [h] at hrun
    unfold wrun at hrun
    cases e : wx S.F fuel ws (startG S.N.length ds) with
    | rt o d =>
      rw [e] at hrun
      cases o with
      | true => cases hrun
      | false =>
        cases d <;> first | (cases hrun; done) | skip
        cases hrun
        rfl
    | no => rw [e] at hrun; cases hrun
    | nx _ => rw [e] at hrun; cases hrun
    | bk _ => rw [e] at hrun; cases hrun
    | ct _ => rw [e] at hrun; cases hrun
    | ex _ _ _ => rw [e] at hrun; cases hrun
end
end
end RA
namespace RA
open PySem PySem.Spec PyProof.Rows L2
/-- with or without the script -/
def O1s (ecls : Nat → Addr) (enames : Nat → List Str) (E : Op2) (z : Prop) : OpT := { O1 ecls enames E with scr := z }
theorem O1s_at [Tabs] [LentT] {ecls : Nat → Addr} {enames : Nat → List Str} {E : Op2} {z : Prop} {k : Nat} (h : E.mine k = false) : ErrAt (O1s ecls enames E z) k := fun B H vs a y => O1_at h B H vs a y
theorem O1s_op [Tabs] [LentT] {ecls : Nat → Addr} {enames : Nat → List Str} {E : Op2} {z : Prop} {k : Nat} (h : E.mine k = false) : ErrOp (O1s ecls enames E z) k := fun B H a dd vs nb e y => O1_op h B H a dd vs nb e y
end RA
/-! K62: the groups of acts. -/
namespace RA
open PySem PySem.Spec PyProof.Rows L2
/- 386 group_about(rows, once); slots: 0=rows 1=once 2=kept 3=found 4=one 5=place 6=other; calls:  -/
def i_group_about : IS := (.seq (.set 2 (.comp (.one 5) (.rng1 (.bi .len (.cons (.v 0) .nil))) (.and_ (.cmp .eq (.ix (.ix (.v 0) (.v 1)) (.v 5)) (.v 5)) (.cmp .eq (.ix (.ix (.v 0) (.v 5)) (.v 1)) (.v 5))) (.v 5))) (.seq (.own 3 (.lst .nil)) (.seq (.for_ (.one 4) (.ex (.v 2)) (.seq (.if_ (.bi .any (.cons (.comp (.one 6) (.ex (.v 2)) (.k (.bl true)) (.and_ (.cmp .eq (.ix (.ix (.v 0) (.v 4)) (.v 6)) (.v 1)) (.cmp .eq (.ix (.ix (.v 0) (.v 6)) (.v 4)) (.v 1)))) .nil)) (.seq (.app 3 (.v 4)) .nil) .nil) .nil)) (.seq (.retp 3) .nil))))
def f_group_about : FT := fun _ _ => .no
def m_group_about : List RA.D → Rs (Bool × RA.D) := mk 2 7 f_group_about i_group_about
/- 387 groups_of(machine); slots: 0=machine 1=rows 2=onces 3=place 4=once; calls: 194=table_2 386=group_about -/
def i_groups_of : IS := (.seq (.set 1 (.call 194 (.cons (.v 0) .nil))) (.seq (.set 2 (.comp (.one 3) (.rng1 (.bi .len (.cons (.v 1) .nil))) (.cmp .eq (.ix (.ix (.v 1) (.v 3)) (.v 3)) (.v 3)) (.v 3))) (.seq (.ret (.comp (.one 4) (.ex (.v 2)) (.k (.bl true)) (.tup (.cons (.v 4) (.cons (.call 386 (.cons (.v 1) (.cons (.v 4) .nil))) .nil))))) .nil)))
def f_groups_of : FT := fun n ds => match n, ds with | 194, ds => m_table_2 ds | 386, ds => m_group_about ds | _, _ => .no
@[simp] theorem f_groups_of_194 (ds : List RA.D) : f_groups_of 194 ds = m_table_2 ds := (rfl)
@[simp] theorem f_groups_of_386 (ds : List RA.D) : f_groups_of 386 ds = m_group_about ds := (rfl)
def m_groups_of : List RA.D → Rs (Bool × RA.D) := mk 1 5 f_groups_of i_groups_of
/- 524 _law_asked(_law_machine_here); slots: 0=_law_machine_here 1=_law_caught 2=_law_told 3=_law_e; calls: 387=groups_of -/
def i_law_asked_6 : IS := (.seq (.set 1 (.k .non)) (.seq (.set 2 (.k .non)) (.seq (.try_ (.seq (.set 2 (.call 387 (.cons (.v 0) .nil))) .nil) "RoomError" [59] [] (.as 3 1)) (.seq (.ret (.tup (.cons (.v 2) (.cons (.v 1) .nil)))) .nil))))
def f_law_asked_6 : FT := fun n ds => match n, ds with | 387, ds => m_groups_of ds | _, _ => .no
@[simp] theorem f_law_asked_6_387 (ds : List RA.D) : f_law_asked_6 387 ds = m_groups_of ds := (rfl)
def m_law_asked_6 : List RA.D → Rs (Bool × RA.D) := mk 1 4 f_law_asked_6 i_law_asked_6
/- 525 _law_join(_law_one, _law_other); slots: 0=_law_one 1=_law_other 2=_law_room; calls:  -/
def i_law_join : IS := (.seq (.ret (.bi .tuple (.cons (.comp (.one 2) (.ex (.v 0)) (.k (.bl true)) (.ix (.v 1) (.v 2))) .nil))) .nil)
def f_law_join : FT := fun _ _ => .no
def m_law_join : List RA.D → Rs (Bool × RA.D) := mk 2 3 f_law_join i_law_join
/- 526 _law_group(_law_found, _law_once); slots: 0=_law_found 1=_law_once 2=_law_kept 3=_law_k 4=_law_members 5=_law_leads 6=_law_j; calls: 525=law_join -/
def i_law_group : IS := (.seq (.own 2 (.lst .nil)) (.seq (.for_ (.one 3) (.rng1 (.bi .len (.cons (.v 0) .nil))) (.seq (.if_ (.and_ (.cmp .eq (.call 525 (.cons (.v 1) (.cons (.ix (.v 0) (.v 3)) .nil))) (.ix (.v 0) (.v 3))) (.cmp .eq (.call 525 (.cons (.ix (.v 0) (.v 3)) (.cons (.v 1) .nil))) (.ix (.v 0) (.v 3)))) (.seq (.app 2 (.v 3)) .nil) .nil) .nil)) (.seq (.own 4 (.lst .nil)) (.seq (.frz 2) (.seq (.for_ (.one 3) (.ex (.v 2)) (.seq (.set 5 (.comp (.one 6) (.ex (.v 2)) (.cmp .eq (.call 525 (.cons (.ix (.v 0) (.v 3)) (.cons (.ix (.v 0) (.v 6)) .nil))) (.v 1)) (.v 6))) (.seq (.if_ (.bi .any (.cons (.comp (.one 6) (.ex (.v 5)) (.k (.bl true)) (.cmp .eq (.call 525 (.cons (.ix (.v 0) (.v 6)) (.cons (.ix (.v 0) (.v 3)) .nil))) (.v 1))) .nil)) (.seq (.app 4 (.v 3)) .nil) .nil) .nil))) (.seq (.retp 4) .nil))))))
def f_law_group : FT := fun n ds => match n, ds with | 525, ds => m_law_join ds | _, _ => .no
@[simp] theorem f_law_group_525 (ds : List RA.D) : f_law_group 525 ds = m_law_join ds := (rfl)
def m_law_group : List RA.D → Rs (Bool × RA.D) := mk 2 7 f_law_group i_law_group
/- 527 _law_due(_law_found); slots: 0=_law_found 1=_law_due_here 2=_law_k; calls: 525=law_join 526=law_group -/
def i_law_due_3 : IS := (.seq (.own 1 (.lst .nil)) (.seq (.for_ (.one 2) (.rng1 (.bi .len (.cons (.v 0) .nil))) (.seq (.if_ (.cmp .eq (.call 525 (.cons (.ix (.v 0) (.v 2)) (.cons (.ix (.v 0) (.v 2)) .nil))) (.ix (.v 0) (.v 2))) (.seq (.app 1 (.tup (.cons (.v 2) (.cons (.call 526 (.cons (.v 0) (.cons (.ix (.v 0) (.v 2)) .nil))) .nil)))) .nil) .nil) .nil)) (.seq (.retp 1) .nil)))
def f_law_due_3 : FT := fun n ds => match n, ds with | 525, ds => m_law_join ds | 526, ds => m_law_group ds | _, _ => .no
@[simp] theorem f_law_due_3_525 (ds : List RA.D) : f_law_due_3 525 ds = m_law_join ds := (rfl)
@[simp] theorem f_law_due_3_526 (ds : List RA.D) : f_law_due_3 526 ds = m_law_group ds := (rfl)
def m_law_due_3 : List RA.D → Rs (Bool × RA.D) := mk 1 3 f_law_due_3 i_law_due_3
/- 528 _law_twice_refused(_law_machine_here); slots: 0=_law_machine_here 1=_law_k 2=_law_told 3=_law_caught; calls: 524=law_asked_6 214=law_refused_well_2 -/
def w_law_twice_refused_2 : WS := (.rng 1 2 (.st (.unp [2, 3] (.call 524 (.cons (.v 0) .nil))) (.kif (some (.cmp .isn (.v 3) (.k .non))) 214 (.cons (.v 3) (.cons (.v 0) .nil)) .nil)) (.st (.ret (.k (.bl true))) .nil))
def f_law_twice_refused_2 : FT := fun n ds => match n, ds with | 524, ds => m_law_asked_6 ds | 214, ds => m_law_refused_well_2 ds | _, _ => .no
@[simp] theorem f_law_twice_refused_2_524 (ds : List RA.D) : f_law_twice_refused_2 524 ds = m_law_asked_6 ds := (rfl)
@[simp] theorem f_law_twice_refused_2_214 (ds : List RA.D) : f_law_twice_refused_2 214 ds = m_law_refused_well_2 ds := (rfl)
def m_law_twice_refused_2 : List RA.D → Rs (Bool × RA.D) := mkW 1 4 f_law_twice_refused_2 w_law_twice_refused_2
/- 529 law(_law_script); slots: 0=_law_script 1=_law_letters_here 2=_law_machine_here 3=_law_due_here 4=_law_found 5=_law_places 6=_law_told 7=_law_caught 8=_law_once 9=_law_members; calls: 22=law_letters_2 184=law_acting 185=law_acts 524=law_asked_6 527=law_due_3 69=law_same 6=law_cell_at 528=law_twice_refused_2 -/
def w_law_top_65 : WS := (.st (.set 1 (.call 22 (.cons (.call 6 (.cons (.v 0) (.cons (.k (.int 0)) .nil))) .nil))) (.st (.set 2 (.call 184 (.cons (.v 0) (.cons (.v 1) .nil)))) (.fgt [0] (.swi (.st (.unp [4, 5] (.call 185 (.cons (.v 2) .nil))) (.cas (.cmp .gt (.bi .len (.cons (.v 4) .nil)) (.k (.int 40))) (.kret none 528 (.cons (.v 2) .nil)) (.st (.unp [6, 7] (.call 524 (.cons (.v 2) .nil))) (.st (.if_ (.cmp .isnt (.v 7) (.k .non)) (.seq (.ret (.k (.bl false))) .nil) .nil) (.cle 3 6 8 9 (.call 527 (.cons (.v 4) .nil)) (.not_ (.call 69 (.cons (.v 6) (.cons (.v 3) .nil)))) (.st (.ret (.call 69 (.cons (.ix (.call 524 (.cons (.v 2) .nil)) (.k (.int 0))) (.cons (.v 3) .nil)))) .nil))))))))))
def f_law_top_65 : FT := fun n ds => match n, ds with | 22, ds => m_law_letters_2 ds | 184, ds => m_law_acting ds | 185, ds => m_law_acts ds | 524, ds => m_law_asked_6 ds | 527, ds => m_law_due_3 ds | 69, ds => m_law_same ds | 6, ds => m_law_cell_at ds | 528, ds => m_law_twice_refused_2 ds | _, _ => .no
@[simp] theorem f_law_top_65_22 (ds : List RA.D) : f_law_top_65 22 ds = m_law_letters_2 ds := (rfl)
@[simp] theorem f_law_top_65_184 (ds : List RA.D) : f_law_top_65 184 ds = m_law_acting ds := (rfl)
@[simp] theorem f_law_top_65_185 (ds : List RA.D) : f_law_top_65 185 ds = m_law_acts ds := (rfl)
@[simp] theorem f_law_top_65_524 (ds : List RA.D) : f_law_top_65 524 ds = m_law_asked_6 ds := (rfl)
@[simp] theorem f_law_top_65_527 (ds : List RA.D) : f_law_top_65 527 ds = m_law_due_3 ds := (rfl)
@[simp] theorem f_law_top_65_69 (ds : List RA.D) : f_law_top_65 69 ds = m_law_same ds := (rfl)
@[simp] theorem f_law_top_65_6 (ds : List RA.D) : f_law_top_65 6 ds = m_law_cell_at ds := (rfl)
@[simp] theorem f_law_top_65_528 (ds : List RA.D) : f_law_top_65 528 ds = m_law_twice_refused_2 ds := (rfl)
def m_law_top_65 : List RA.D → Rs (Bool × RA.D) := mkW 1 10 f_law_top_65 w_law_top_65
local macro_rules | `(tactic| dsimp! [$xs,*]) => `(tactic| simp (disch := first | assumption | omega | (simp only [List.length_map, List.length_append, List.length_cons, List.length_nil, List.length_range, List.length_set]; omega) | decide | rfl) only [inn_lst, inn_dct, inn_ln, isLn_lst, isLn_dct, tstO_eq, x_seq, x_set, x_own, x_do, x_if, x_for, x_whl, x_ret, x_retN, x_pass, x_brk, x_cnt, x_rse, x_fgt, x_frz, x_retp, x_app, x_aug, x_unp, x_put, e_v, e_pk, e_k, e_gl, e_b, e_neg, e_cmp, e_and, e_or, e_not, e_ife, e_tup, e_lst, e_dct, e_dct1, e_lset, e_ix, e_sl, e_rv, rv_lst, e_out, e_bi, e_me, e_call, es_nil, es_cons, i_ex, i_rng1, i_rng2, i_zip, i_rev, valO_ok, pkO_ok, glO_ok, negO_ok, frzO_ok, retO_ok, augO_add, augO_sub, walkO_lst, walkO_tup, walkO_str, zipO_ok, zipI_ok, revO_ok, asB_ok, items_lst, items_tup, items_str, bindT_one, bindT_tup, setAll_nil, setAll_cons, forget_nil, forget_cons, prt_int, prt_out, isOut, keepOk_nil, keepOk_cons, recv_str, b_add, b_sub, c_lt, c_le, c_gt, c_ge, c_ltS, c_gtS, c_eqI, c_neI, c_eqS, c_neS, c_eqB, c_neB, c_isn, c_isnt, c_memS, c_nmemS, sl_lst, len_lst, len_tup, is_str, is_intI, is_boolI, is_boolB, tuple_lst, list_lst, list_tup, find_one, seqO_nx, seqO_no, seqO_rt, seqO_ex, seqO_bk, seqO_ct, seqO_seqO, seqO_ite, x_nil, sat_nx, sat_rt, sat_ex, sat_thru, sat_thru_ct, sat_nxt, sat_t1, sat_t1c, sat_t1r, sat_t1e, Rs.bind_ok, Rs.bind_ex, Rs.out_ok, Rs.out_ex, List.set_cons_succ, List.set_cons_zero, List.getElem?_cons_succ, List.getElem?_cons_zero, List.map_cons, List.map_nil, List.cons_append, List.nil_append, startG, List.reduceReplicate, List.length_cons, List.length_nil, Nat.reduceAdd, Nat.reduceSub, Nat.zero_add, Nat.add_zero, Nat.zero_le, Nat.reduceLeDiff, List.append_nil, reduceCtorEq, if_true, if_false, ite_true, ite_false, ne_eq, not_false_eq_true, not_true_eq_false, decide_true, decide_false, decide_not, Bool.not_true, Bool.not_false, Bool.and_true, Bool.true_and, Bool.and_self, Bool.false_eq_true, and_self, and_true, true_and, decide_eq_true_eq, Int.reduceEq, Int.cast_ofNat_Int, Int.reduceNe, Int.reduceLT, Int.reduceLE, Int.reduceNeg, Int.reduceAdd, Int.reduceSub, tgSlots, freeAt, List.all_cons, List.all_nil, isNon_non, isNon_str, isNon_int, isNon_bl, isNon_tup, isNon_lst, isNon_opq, fin_nx, fin_rt, fin_ex, e_xt, Bool.true_eq_false, eq_self, isc_non, isc_opq, x_xs, x_clr, x_unl, x_pop, x_popd, x_try, tryO_nx, tryO_rt, tryO_ex, hdG_as, hdG_cst, List.contains_cons, List.contains_nil, Nat.reduceBEq, beq_self_eq_true, up_nil, up_cons, tn_nx, tn_ct, tn_bk, tn_rt, tn_ex, b_fdiv, b_mod, max_two, min_two, ixl, ixt, ixl_last, ixl_zero, ixt_zero, ixs, ixs_last, ixT0, ixT1, ixT12, ixT22, ixL0, ixL1, ixM0, ixM1, ixM2, lenS, slS, rvS, catS, appL, unp2, unp3, r1, r2, r2one, e_comp2, it_nth, nat1, nat1l, natA, natM, natD, natR, natS, natS1, natE, natL, natLe, natL0, natN0, nat0, max_nats, Bool.not_eq_true', Bool.not_eq_false', List.length_map, List.length_append, List.length_range, Bool.true_or, Bool.false_or, Bool.or_true, Bool.or_false, Bool.and_false, Bool.false_and, Bool.or_self, decide_eq_false_iff_not, Nat.lt_irrefl, Bool.not_eq_eq_eq_not, not_true, not_false_iff, Nat.not_lt_zero, f_groups_of_194, f_groups_of_386, f_law_asked_6_387, f_law_group_525, f_law_due_3_525, f_law_due_3_526, f_law_twice_refused_2_524, f_law_twice_refused_2_214, f_law_top_65_22, f_law_top_65_184, f_law_top_65_185, f_law_top_65_524, f_law_top_65_527, f_law_top_65_69, f_law_top_65_6, f_law_top_65_528, f_table_2_193, f_law_acting_6, f_law_acting_23, f_law_acting_180, f_law_acting_183, $xs,*])
section
variable {N : Nat} {mul : Nat → Nat → Nat}
theorem it_range {i : Nat} (h : i < N) : it (List.range N) i = i := it_of (List.getElem?_range h)
theorem tab_ix {i : Nat} (h : i < N) : ixD (.lst (tabN N mul)) (.int (i : Nat)) = .ok (.tup ((rowN N mul i).map (fun (n : Nat) => RA.D.int n))) := by
  have e := ixl (f := fun i => RA.D.tup ((rowN N mul i).map (fun (n : Nat) => RA.D.int n))) (xs := List.range N) (i := i) (by rw [List.length_range]; exact h)
  rw [it_range h] at e
  exact e
theorem row_ix {i j : Nat} (h : j < N) : ixD (.tup ((rowN N mul i).map (fun (n : Nat) => RA.D.int n))) (.int (j : Nat)) = .ok (.int (mul i j : Nat)) := by
  unfold rowN
  rw [List.map_map]
  have e := ixt (f := (fun (n : Nat) => RA.D.int n) ∘ mul i) (xs := List.range N) (i := j) (by rw [List.length_range]; exact h)
  rw [it_range h] at e
  exact e
theorem and_ite {p : Prop} [Decidable p] {b : Bool} : (if p then Rs.ok (Fl.val, RA.D.bl b) else Rs.ok (Fl.val, RA.D.bl false)) = Rs.ok (Fl.val, RA.D.bl (decide p && b)) := by
  by_cases h : p
  · rw [if_pos h, decide_eq_true h]; rfl
  · rw [if_neg h, decide_eq_false h]; rfl
theorem any_map {α : Type} {f : α → Bool} : ∀ {l : List α}, biD .any [.lst (l.map fun x => RA.D.bl (f x))] = .ok (.val, .bl (l.any f)) := by
  intro l
  have h : blsOf (l.map fun x => RA.D.bl (f x)) = some (l.map f) := by
    induction l with
    | nil => rfl
    | cons a l ih =>
      rw [List.map_cons]
      unfold blsOf
      rw [ih]; rfl
  show (match blsOf (l.map fun x => RA.D.bl (f x)) with | some bs => Rs.ok (Fl.val, RA.D.bl (bs.any id)) | none => .no) = _
  rw [h]
  show Rs.ok (Fl.val, RA.D.bl ((l.map f).any id)) = _
  rw [List.any_map]; rfl
def keptB (mul : Nat → Nat → Nat) (e x : Nat) : Bool := decide (mul e x = x) && decide (mul x e = x)
def keptL (N : Nat) (mul : Nat → Nat → Nat) (e : Nat) : List Nat := (List.range N).filter (keptB mul e)
def grpB (N : Nat) (mul : Nat → Nat → Nat) (e x : Nat) : Bool := (keptL N mul e).any fun o => decide (mul x o = e) && decide (mul o x = e)
def grpL (N : Nat) (mul : Nat → Nat → Nat) (e : Nat) : List Nat := (keptL N mul e).filter (grpB N mul e)
theorem group_about_ok (hN : N ≤ 1000) {e : Nat} (he : e < N) : m_group_about [.lst (tabN N mul), .int (e : Nat)] = .ok (true, .lst ((grpL N mul e).map (fun (n : Nat) => RA.D.int n))) := by
  refine mk_of rfl ?_
  unfold i_group_about
  have tl : (tabN N mul).length = N := by unfold tabN; rw [List.length_map, List.length_range]
  have te := tab_ix (mul := mul) he
  have kl : (keptL N mul e).length ≤ 1000 := by
    have := List.length_filter_le (keptB mul e) (List.range N)
    rw [List.length_range] at this
    unfold keptL; omega
  have km : ∀ x ∈ keptL N mul e, x < N := fun x hx => List.mem_range.mp (List.mem_filter.mp hx).1
  dsimp! [tl]
  rw [rng_map, comp_if (xs := List.range N) (f := (fun (n : Nat) => RA.D.int n)) (keptB mul e) (fun (n : Nat) => RA.D.int n) rfl (by rw [List.length_range]; omega) fun i x hx hi => ⟨_, rfl, by
    have hx' : x < N := List.mem_range.mp (List.mem_of_getElem? hx)
    have t1 := row_ix (mul := mul) (i := e) hx'
    have t2 := tab_ix (mul := mul) hx'
    have t3 := row_ix (mul := mul) (i := x) he
    dsimp! [te, t1, t2, t3, natE, and_ite]
    rfl, fun _ => ⟨.val, by decide, by dsimp! [up_nil]⟩⟩]
  have ek : (List.range N).filter (keptB mul e) = keptL N mul e := rfl
  rw [ek]
  dsimp! [up_nil]
  refine for_map (fun G0 i G => ∃ (t4 : Option (Bool × RA.D)), G = up G0 [(3, some (true, .lst ((((keptL N mul e).take i).filter (grpB N mul e)).map (fun (n : Nat) => RA.D.int n)))), (4, t4)]) ⟨none, rfl⟩ ?_ ?_
  · rintro i x G hx hi ⟨t4, rfl⟩
    refine ⟨_, rfl, ?_⟩
    have hx' : x < N := km x (List.mem_of_getElem? hx)
    have tx := tab_ix (mul := mul) hx'
    dsimp! [up_nil]
    rw [comp_of (xs := keptL N mul e) (f := (fun (n : Nat) => RA.D.int n)) (fun o => .bl (decide (mul x o = e) && decide (mul o x = e))) rfl (by omega) fun j o ho hj => ⟨_, rfl, .val, by decide, by
      have ho' : o < N := km o (List.mem_of_getElem? ho)
      have t1 := row_ix (mul := mul) (i := x) ho'
      have t2 := tab_ix (mul := mul) ho'
      have t3 := row_ix (mul := mul) (i := o) hx'
      dsimp! [tx, t1, t2, t3, natE, and_ite]⟩]
    dsimp! [any_map]
    have eb : ((keptL N mul e).any fun o => decide (mul x o = e) && decide (mul o x = e)) = grpB N mul e x := rfl
    have es : (keptL N mul e).take (i + 1) = (keptL N mul e).take i ++ [x] := take_snoc hx
    have fl : (((keptL N mul e).take i).filter (grpB N mul e)).length ≤ 1000 := by
      have h1 := List.length_filter_le (grpB N mul e) ((keptL N mul e).take i)
      rw [List.length_take] at h1; omega
    rw [eb]
    cases q : grpB N mul e x with
    | true =>
      dsimp! [up_nil]
      refine ⟨some (false, .int (x : Nat)), ?_⟩
      rw [es, List.filter_append, List.filter_cons_of_pos q, List.map_append]; rfl
    | false =>
      dsimp! [up_nil]
      refine ⟨some (false, .int (x : Nat)), ?_⟩
      rw [es, List.filter_append, List.filter_cons_of_neg (by rw [q]; exact Bool.false_ne_true), List.filter_nil, List.append_nil]
  · rintro G ⟨t4, rfl⟩
    rw [List.take_length]
    dsimp! [up_nil]
    rfl
def onceL (N : Nat) (mul : Nat → Nat → Nat) : List Nat := (List.range N).filter fun x => decide (mul x x = x)
def grpsD (N : Nat) (mul : Nat → Nat → Nat) : List RA.D := (onceL N mul).map fun e => .tup [.int (e : Nat), .lst ((grpL N mul e).map (fun (n : Nat) => RA.D.int n))]
theorem groups_of_ok (hN : N ≤ 1000) {m : RA.D} (et : m_table_2 [m] = .ok (true, .lst (tabN N mul))) : m_groups_of [m] = .ok (true, .lst (grpsD N mul)) := by
  refine mk_of rfl ?_
  unfold i_groups_of
  have tl : (tabN N mul).length = N := by unfold tabN; rw [List.length_map, List.length_range]
  dsimp! [et, tl]
  rw [rng_map, comp_if (xs := List.range N) (f := (fun (n : Nat) => RA.D.int n)) (fun x => decide (mul x x = x)) (fun (n : Nat) => RA.D.int n) rfl (by rw [List.length_range]; omega) fun i x hx hi => ⟨_, rfl, by
    have hx' : x < N := List.mem_range.mp (List.mem_of_getElem? hx)
    have t1 := row_ix (mul := mul) (i := x) hx'
    have t2 := tab_ix (mul := mul) hx'
    dsimp! [t1, t2, natE], fun _ => ⟨.val, by decide, by dsimp! [up_nil]⟩⟩]
  have ol : (onceL N mul).length ≤ 1000 := by
    have := List.length_filter_le (fun x => decide (mul x x = x)) (List.range N)
    rw [List.length_range] at this
    unfold onceL; omega
  have ek : (List.range N).filter (fun x => decide (mul x x = x)) = onceL N mul := rfl
  rw [ek]
  dsimp! [up_nil]
  rw [comp_of (xs := onceL N mul) (f := (fun (n : Nat) => RA.D.int n)) (fun e => .tup [.int (e : Nat), .lst ((grpL N mul e).map (fun (n : Nat) => RA.D.int n))]) rfl (by omega) fun i x hx hi => ⟨_, rfl, .val, by decide, by
    have hx' : x < N := List.mem_range.mp (List.mem_filter.mp (List.mem_of_getElem? hx)).1
    have e := group_about_ok (mul := mul) hN hx'
    dsimp! [e]⟩]
  dsimp! [up_nil]
  rfl
end
/-! ### the law's groups -/
theorem eq_TUP (a b : List Nat) : cmpD .eq (.tup (a.map (fun (n : Nat) => RA.D.int n))) (.tup (b.map (fun (n : Nat) => RA.D.int n))) = .ok (decide (a = b)) := by
  have sh : ∀ a : List Nat, SeqAt.shaped (toP (.tup (a.map (fun (n : Nat) => RA.D.int n)))) = true := fun a => by
    have h1 : PyData.canLay0 (toP (.tup (a.map (fun (n : Nat) => RA.D.int n)))) = true ∧ PyData.depth (toP (.tup (a.map (fun (n : Nat) => RA.D.int n)))) ≤ 2 := lay_ROW a
    unfold SeqAt.shaped; rw [h1.1, Bool.true_and, decide_eq_true_eq]; omega
  have e : PyData.eqv (toP (.tup (a.map (fun (n : Nat) => RA.D.int n)))) (toP (.tup (b.map (fun (n : Nat) => RA.D.int n)))) = decide (a = b) := eqv_ROW a b
  show eqD _ _ = _
  unfold eqD
  rw [if_neg (by unfold scalD; exact Bool.false_ne_true), sh, sh, e]; rfl
/-- acts, by their places -/
structure Jn (F : List (List Nat)) (n : Nat) (mul : Nat → Nat → Nat) : Prop where
  le : n ≤ 1000
  len : ∀ i < F.length, (it F i).length = n
  lt : ∀ i < F.length, ∀ x ∈ it F i, x < n
  ml : ∀ i < F.length, ∀ j < F.length, mul i j < F.length
  at_ : ∀ i < F.length, ∀ j < F.length, thenA (it F i) (it F j) = it F (mul i j)
  inj : ∀ i < F.length, ∀ j < F.length, (it F i = it F j ↔ i = j)
theorem join_ok {a b : List Nat} (ha : a.length ≤ 1000) (h : ∀ x ∈ a, x < b.length) : m_law_join [.tup (a.map (fun (n : Nat) => RA.D.int n)), .tup (b.map (fun (n : Nat) => RA.D.int n))] = .ok (false, .tup ((thenA a b).map (fun (n : Nat) => RA.D.int n))) := by
  refine mk_of rfl ?_
  unfold i_law_join
  dsimp! [up_nil]
  rw [comp_of (xs := a) (f := (fun (n : Nat) => RA.D.int n)) (fun x => (fun (n : Nat) => RA.D.int n) (nth b x)) rfl (by omega) fun i x hx hi => ⟨_, rfl, .val, by decide, by
    have e : ixD (.tup (b.map (fun (n : Nat) => RA.D.int n))) (.int (x : Nat)) = .ok ((fun (n : Nat) => RA.D.int n) (it b x)) := ixt (f := (fun (n : Nat) => RA.D.int n)) (h x (List.mem_of_getElem? hx))
    rw [it_nth] at e
    dsimp! [e]⟩]
  dsimp! [up_nil]
  rw [List.map_map]; rfl
section
variable {F : List (List Nat)} {n : Nat} {mul : Nat → Nat → Nat}
theorem Jn.join (J : Jn F n mul) {i j : Nat} (hi : i < F.length) (hj : j < F.length) : m_law_join [.tup ((it F i).map (fun (n : Nat) => RA.D.int n)), .tup ((it F j).map (fun (n : Nat) => RA.D.int n))] = .ok (false, .tup ((it F (mul i j)).map (fun (n : Nat) => RA.D.int n))) := by
  have h := join_ok (a := it F i) (b := it F j) (by rw [J.len i hi]; exact J.le) fun x hx => by rw [J.len j hj]; exact J.lt i hi x hx
  rw [J.at_ i hi j hj] at h
  exact h
theorem Jn.eq (J : Jn F n mul) {i j : Nat} (hi : i < F.length) (hj : j < F.length) : cmpD .eq (.tup ((it F i).map (fun (n : Nat) => RA.D.int n))) (.tup ((it F j).map (fun (n : Nat) => RA.D.int n))) = .ok (decide (i = j)) := by
  rw [eq_TUP]
  congr 1
  exact decide_eq_decide.mpr (J.inj i hi j hj)
theorem Jn.ix (J : Jn F n mul) {i : Nat} (hi : i < F.length) : ixD (.lst (F.map (fun r : List Nat => RA.D.tup (r.map (fun (n : Nat) => RA.D.int n))))) (.int (i : Nat)) = .ok (.tup ((it F i).map (fun (n : Nat) => RA.D.int n))) := ixl (f := (fun r : List Nat => RA.D.tup (r.map (fun (n : Nat) => RA.D.int n)))) hi
def leadL (N : Nat) (mul : Nat → Nat → Nat) (e x : Nat) : List Nat := (keptL N mul e).filter fun o => decide (mul x o = e)
theorem lead_any {N e x : Nat} : ((leadL N mul e x).any fun o => decide (mul o x = e)) = grpB N mul e x := by
  unfold leadL grpB
  rw [List.any_filter]
theorem law_group_ok (J : Jn F n mul) (hN : F.length ≤ 1000) {e : Nat} (he : e < F.length) : m_law_group [.lst (F.map (fun r : List Nat => RA.D.tup (r.map (fun (n : Nat) => RA.D.int n)))), .tup ((it F e).map (fun (n : Nat) => RA.D.int n))] = .ok (true, .lst ((grpL F.length mul e).map (fun (n : Nat) => RA.D.int n))) := by
  refine mk_of rfl ?_
  unfold i_law_group
  have kl : (keptL F.length mul e).length ≤ 1000 := by
    have := List.length_filter_le (keptB mul e) (List.range F.length)
    rw [List.length_range] at this
    unfold keptL; omega
  have km : ∀ x ∈ keptL F.length mul e, x < F.length := fun x hx => List.mem_range.mp (List.mem_filter.mp hx).1
  dsimp! [up_nil]
  refine for_rng (fun G0 i G => ∃ (t3 : Option (Bool × RA.D)), G = up G0 [(2, some (true, .lst (((List.range i).filter (keptB mul e)).map (fun (n : Nat) => RA.D.int n)))), (3, t3)]) ⟨none, rfl⟩ ?_ ?_
  · rintro x G hx ⟨t3, rfl⟩
    refine ⟨_, rfl, ?_⟩
    have ix := J.ix hx
    have j1 := J.join he hx
    have j2 := J.join hx he
    have q1 := J.eq (J.ml e he x hx) hx
    have q2 := J.eq (J.ml x hx e he) hx
    have fl : ((List.range x).filter (keptB mul e)).length ≤ 1000 := by
      have h1 := List.length_filter_le (keptB mul e) (List.range x)
      rw [List.length_range] at h1; omega
    dsimp! [ix, j1, j2, q1, q2, and_ite]
    have eb : (decide (mul e x = x) && decide (mul x e = x)) = keptB mul e x := rfl
    rw [eb]
    cases q : keptB mul e x with
    | true =>
      dsimp! [up_nil]
      refine ⟨some (false, .int (x : Nat)), ?_⟩
      rw [List.range_succ, List.filter_append, List.filter_cons_of_pos q, List.map_append]; rfl
    | false =>
      dsimp! [up_nil]
      refine ⟨some (false, .int (x : Nat)), ?_⟩
      rw [List.range_succ, List.filter_append, List.filter_cons_of_neg (by rw [q]; exact Bool.false_ne_true), List.filter_nil, List.append_nil]
  · rintro G ⟨t3, rfl⟩
    have ek : (List.range F.length).filter (keptB mul e) = keptL F.length mul e := rfl
    rw [ek]
    dsimp! [up_nil]
    refine for_map (fun G0 i G => ∃ (t3 t5 : Option (Bool × RA.D)), G = up G0 [(3, t3), (4, some (true, .lst ((((keptL F.length mul e).take i).filter (grpB F.length mul e)).map (fun (n : Nat) => RA.D.int n)))), (5, t5)]) ⟨t3, none, rfl⟩ ?_ ?_
    · rintro i x G hx hi ⟨t3, t5, rfl⟩
      refine ⟨_, rfl, ?_⟩
      have hx' : x < F.length := km x (List.mem_of_getElem? hx)
      have ix := J.ix hx'
      dsimp! [up_nil]
      rw [comp_if (xs := keptL F.length mul e) (f := (fun (n : Nat) => RA.D.int n)) (fun o => decide (mul x o = e)) (fun (n : Nat) => RA.D.int n) rfl (by omega) fun j o ho hj => ⟨_, rfl, by
        have ho' : o < F.length := km o (List.mem_of_getElem? ho)
        have i2 := J.ix ho'
        have j1 := J.join hx' ho'
        have q1 := J.eq (J.ml x hx' o ho') he
        dsimp! [ix, i2, j1, q1], fun _ => ⟨.val, by decide, by dsimp! [up_nil]⟩⟩]
      have el : (keptL F.length mul e).filter (fun o => decide (mul x o = e)) = leadL F.length mul e x := rfl
      rw [el]
      have ll : (leadL F.length mul e x).length ≤ 1000 := Nat.le_trans (List.length_filter_le _ _) kl
      dsimp! [up_nil]
      rw [comp_of (xs := leadL F.length mul e x) (f := (fun (n : Nat) => RA.D.int n)) (fun o => .bl (decide (mul o x = e))) rfl (by omega) fun j o ho hj => ⟨_, rfl, .val, by decide, by
        have ho' : o < F.length := km o (List.mem_filter.mp (List.mem_of_getElem? ho)).1
        have i2 := J.ix ho'
        have j1 := J.join ho' hx'
        have q1 := J.eq (J.ml o ho' x hx') he
        dsimp! [ix, i2, j1, q1]⟩]
      dsimp! [any_map, lead_any]
      have es : (keptL F.length mul e).take (i + 1) = (keptL F.length mul e).take i ++ [x] := take_snoc hx
      have fl : (((keptL F.length mul e).take i).filter (grpB F.length mul e)).length ≤ 1000 := by
        have h1 := List.length_filter_le (grpB F.length mul e) ((keptL F.length mul e).take i)
        rw [List.length_take] at h1; omega
      cases q : grpB F.length mul e x with
      | true =>
        dsimp! [up_nil]
        refine ⟨some (false, .int (x : Nat)), some (false, .lst ((leadL F.length mul e x).map (fun (n : Nat) => RA.D.int n))), ?_⟩
        rw [es, List.filter_append, List.filter_cons_of_pos q, List.map_append]; rfl
      | false =>
        dsimp! [up_nil]
        refine ⟨some (false, .int (x : Nat)), some (false, .lst ((leadL F.length mul e x).map (fun (n : Nat) => RA.D.int n))), ?_⟩
        rw [es, List.filter_append, List.filter_cons_of_neg (by rw [q]; exact Bool.false_ne_true), List.filter_nil, List.append_nil]
    · rintro G ⟨t3, t5, rfl⟩
      rw [List.take_length]
      dsimp! [up_nil]
      rfl
def grpD (N : Nat) (mul : Nat → Nat → Nat) (e : Nat) : RA.D := .tup [.int (e : Nat), .lst ((grpL N mul e).map (fun (n : Nat) => RA.D.int n))]
theorem due3_ok (J : Jn F n mul) (hN : F.length ≤ 1000) : m_law_due_3 [.lst (F.map (fun r : List Nat => RA.D.tup (r.map (fun (n : Nat) => RA.D.int n))))] = .ok (true, .lst (grpsD F.length mul)) := by
  refine mk_of rfl ?_
  unfold i_law_due_3
  dsimp! [up_nil]
  refine for_rng (fun G0 i G => ∃ (t2 : Option (Bool × RA.D)), G = up G0 [(1, some (true, .lst (((List.range i).filter fun x => decide (mul x x = x)).map (grpD F.length mul)))), (2, t2)]) ⟨none, rfl⟩ ?_ ?_
  · rintro x G hx ⟨t2, rfl⟩
    refine ⟨_, rfl, ?_⟩
    have ix := J.ix hx
    have j1 := J.join hx hx
    have q1 := J.eq (J.ml x hx x hx) hx
    have gr := law_group_ok J hN hx
    have fl : ((List.range x).filter fun x => decide (mul x x = x)).length ≤ 1000 := by
      have h1 := List.length_filter_le (fun x => decide (mul x x = x)) (List.range x)
      rw [List.length_range] at h1; omega
    dsimp! [ix, j1, q1]
    by_cases q : mul x x = x
    · dsimp! [q, ix, gr]
      refine ⟨some (false, .int (x : Nat)), ?_⟩
      rw [List.range_succ, List.filter_append, List.filter_cons_of_pos (by exact decide_eq_true q), List.map_append]; rfl
    · dsimp! [q]
      refine ⟨some (false, .int (x : Nat)), ?_⟩
      rw [List.range_succ, List.filter_append, List.filter_cons_of_neg (by rw [decide_eq_false q]; exact Bool.false_ne_true), List.filter_nil, List.append_nil]
  · rintro G ⟨t2, rfl⟩
    dsimp! [up_nil]
    rfl
end
theorem asked6_ok {d d1 : RA.D} (h : m_groups_of [d1] = .ok (true, d)) : m_law_asked_6 [d1] = .ok (false, .tup [d, .non]) := by
  refine mk_of rfl ?_
  unfold i_law_asked_6
  dsimp! [h]
theorem asked6_ex {fs : List RA.D} {d1 : RA.D} (h : m_acts_2 [d1] = .ex 59 fs) : m_law_asked_6 [d1] = .ok (false, .tup [.non, .opq 59 fs]) := by
  have h1 : m_table_2 [d1] = .ex 59 fs := by
    refine mk_of rfl ?_
    unfold i_table_2
    dsimp! [f_table_2_193, h]
  have h2 : m_groups_of [d1] = .ex 59 fs := by
    refine mk_of rfl ?_
    unfold i_groups_of
    dsimp! [f_groups_of_194, h1]
  refine mk_of rfl ?_
  unfold i_law_asked_6
  dsimp! [h2]
theorem w_st {F : FT} {n : Nat} {s : IS} {r : WS} {G : Ev} : wx F n (.st s r) G = stO (wx F n r) (exec F n s G) := (rfl)
theorem st_nx {r : Ev → Out} {G : Ev} : stO r (.nx G) = r G := (rfl)
theorem wl_z {f : Ev → Out} {i j : Nat} {G : Ev} : wloop f i 0 j G = .nx G := (rfl)
theorem wl_s {f : Ev → Out} {i m j : Nat} {G G' : Ev} (h : f (G.set i (some (false, .int j))) = .nx G') : wloop f i (m + 1) j G = wloop f i m (j + 1) G' := by
  show (match f (G.set i (some (false, .int j))) with | .nx G' => wloop f i m (j + 1) G' | o => o) = _
  rw [h]
section
variable {s : List Nat} {rows : List (List Nat)} {marks : List Bool}
theorem twice_ok {fs : List RA.D} (a : m_law_asked_6 [mD s rows marks] = .ok (false, .tup [.non, .opq 59 fs])) (rw' : m_law_refused_well_2 [.opq 59 fs, mD s rows marks] = .ok (false, .bl true)) : m_law_twice_refused_2 [mD s rows marks] = .ok (false, .bl true) := by
  refine mkW_of rfl ?_
  unfold w_law_twice_refused_2
  have kd : killS (some (false, RA.D.opq 59 fs)) = none := kill_drop rfl
  have km := kill_keep (noL_mD (s := s) (rows := rows) (marks := marks))
  have k4 : killS (some (false, RA.D.non)) = some (false, RA.D.non) := kill_keep rfl
  have ki : ∀ j : Int, killS (some (false, RA.D.int j)) = some (false, RA.D.int j) := fun j => kill_keep rfl
  have body : ∀ (j : Int) (t2 t3 : Option (Bool × RA.D)), wx f_law_twice_refused_2 FUEL (.st (.unp [2, 3] (.call 524 (.cons (.v 0) .nil))) (.kif (some (.cmp .isn (.v 3) (.k .non))) 214 (.cons (.v 3) (.cons (.v 0) .nil)) .nil)) [some (false, mD s rows marks), some (false, .int j), t2, t3] = .nx [some (false, mD s rows marks), some (false, .int j), some (false, .non), none] := by
    intro j t2 t3
    dsimp! [w_st, st_nx, a, w_kif, gate_s, wcall_eq, wcO_ok, wb_ok, rw', kif_f1, kill_cons, kill_nil, kd, km, k4, ki, w_nil]
  rw [w_rng]
  show Sat (seqW _ (wloop _ 1 2 0 [some (false, mD s rows marks), none, none, none])) _
  rw [wl_s (body 0 none none), wl_s (body _ _ _), wl_z]
  show Sat (wx _ FUEL (.st (.ret (.k (.bl true))) .nil) _) _
  dsimp! [sat_wst]
end
theorem jn_of {n : Nat} {F : List (List Nat)} (hn : n ≤ 1000) (A : Acts n F) (nd : F.Nodup) : Jn F n (mulF F) := by
  have mem : ∀ i < F.length, it F i ∈ F := fun i hi => it_mem hi
  have lt : ∀ i < F.length, ∀ j < F.length, mulF F i j < F.length := fun i hi j hj => List.idxOf_lt_length_iff.mpr (A.cl _ (mem i hi) _ (mem j hj))
  have ix : ∀ i < F.length, F.idxOf (it F i) = i := fun i hi => by
    have e : it F i = F[i] := it_of (List.getElem?_eq_getElem hi)
    rw [e]
    exact nd.idxOf_getElem i hi
  refine ⟨hn, fun i hi => A.len _ (mem i hi), fun i hi => A.lt _ (mem i hi), lt, fun i hi j hj => ?_, fun i hi j hj => ⟨fun e => ?_, fun e => by rw [e]⟩⟩
  · have h : F.idxOf (thenA (it F i) (it F j)) < F.length := lt i hi j hj
    exact (it_of (l := F) (i := F.idxOf (thenA (it F i) (it F j))) (by rw [List.getElem?_eq_getElem h, List.getElem_idxOf])).symm
  · rw [← ix i hi, e, ix j hj]
theorem pair_IL {N : Nat} {mul : Nat → Nat → Nat} : (grpsD N mul).all pairIL = true := by
  refine List.all_eq_true.mpr fun d hd => ?_
  unfold grpsD at hd
  obtain ⟨e, he, rfl⟩ := List.mem_map.mp hd
  obtain ⟨h1, h2⟩ := List.mem_filter.mp he
  have h2 : mul e e = e := of_decide_eq_true h2
  have k : e ∈ keptL N mul e := List.mem_filter.mpr ⟨h1, by unfold keptB; rw [decide_eq_true h2]; rfl⟩
  have g : e ∈ grpL N mul e := List.mem_filter.mpr ⟨k, by
    unfold grpB
    exact List.any_eq_true.mpr ⟨e, k, by rw [decide_eq_true h2]; rfl⟩⟩
  show isIL (.lst ((grpL N mul e).map (fun (n : Nat) => RA.D.int n))) = true
  cases q : grpL N mul e with
  | nil => rw [q] at g; cases g
  | cons x l =>
    rw [List.map_cons]
    show (RA.D.int (x : Nat) :: l.map (fun (n : Nat) => RA.D.int n)).all isIntD = true
    rw [← List.map_cons (f := (fun (n : Nat) => RA.D.int n))]
    exact List.all_eq_true.mpr fun d hd => by obtain ⟨y, _, rfl⟩ := List.mem_map.mp hd; rfl
theorem noIL_rows {F : List (List Nat)} (h : 0 < F.length) : noIL (.lst (F.map (fun r : List Nat => RA.D.tup (r.map (fun (n : Nat) => RA.D.int n))))) = true := by
  have a : (F.map (fun r : List Nat => RA.D.tup (r.map (fun (n : Nat) => RA.D.int n)))).all isIntD = false := by
    cases F with
    | nil => cases h
    | cons x F => rfl
  have b : ∀ F : List (List Nat), noILs (F.map (fun r : List Nat => RA.D.tup (r.map (fun (n : Nat) => RA.D.int n)))) = true := by
    intro F
    induction F with
    | nil => rfl
    | cons x F ih =>
      rw [List.map_cons]
      have c : ∀ x : List Nat, noILs (x.map (fun (n : Nat) => RA.D.int n)) = true := by
        intro x
        induction x with
        | nil => rfl
        | cons y x ih => exact ih
      show (noILs (x.map (fun (n : Nat) => RA.D.int n)) && noILs (F.map (fun r : List Nat => RA.D.tup (r.map (fun (n : Nat) => RA.D.int n))))) = true
      rw [c, ih]; rfl
  show (!((F.map (fun r : List Nat => RA.D.tup (r.map (fun (n : Nat) => RA.D.int n)))).all isIntD) && noILs (F.map (fun r : List Nat => RA.D.tup (r.map (fun (n : Nat) => RA.D.int n))))) = true
  rw [a, b]; rfl
mutual
theorem noIL_of : ∀ {d : RA.D}, noL d = true → noIL d = true
  | .non, _ => rfl
  | .bl _, _ => rfl
  | .int _, _ => rfl
  | .str _, _ => rfl
  | .tup _, h => noILs_of (by simpa only [noL] using h)
  | .lst _, h => by simp [noL] at h
  | .dct _, h => by simp [noL] at h
  | .opq _ _, h => by simp [noL] at h
theorem noILs_of : ∀ {ds : List RA.D}, noLs ds = true → noILs ds = true
  | [], _ => rfl
  | _ :: _, h => by
    simp only [noLs, Bool.and_eq_true] at h
    show (noIL _ && noILs _) = true
    rw [noIL_of h.1, noILs_of h.2]; rfl
end
theorem same_grps {N : Nat} (hN : N ≤ 1000) {mul : Nat → Nat → Nat} : m_law_same [.lst (grpsD N mul), .lst (grpsD N mul)] = .ok (false, .bl true) := by
  have ol : (onceL N mul).length ≤ 1000 := by
    have := List.length_filter_le (fun x => decide (mul x x = x)) (List.range N)
    rw [List.length_range] at this
    unfold onceL; omega
  have gl : ∀ e, (grpL N mul e).length ≤ 1000 := fun e => by
    have h1 := List.length_filter_le (grpB N mul e) (keptL N mul e)
    have h2 := List.length_filter_le (keptB mul e) (List.range N)
    rw [List.length_range] at h2
    unfold grpL
    have h3 : (keptL N mul e).length ≤ N := h2
    omega
  have pd : plainD (.lst (grpsD N mul)) = true := by
    unfold plainD grpsD
    rw [Bool.and_eq_true, List.length_map]
    refine ⟨plainL_of fun a ha => ?_, decide_eq_true (by omega)⟩
    obtain ⟨x, hx, rfl⟩ := List.mem_map.mp ha
    have := gl x
    have p1 : plainD (.lst ((grpL N mul x).map (fun (n : Nat) => RA.D.int n))) = true := by
      unfold plainD
      rw [Bool.and_eq_true, List.length_map]
      exact ⟨plainL_of fun a ha => by obtain ⟨y, hy, rfl⟩ := List.mem_map.mp ha; rfl, decide_eq_true (by omega)⟩
    unfold plainD plainL plainL plainL
    rw [p1]; rfl
  have dd : depD (.lst (grpsD N mul)) < 8 := by
    have d1 : depL (grpsD N mul) ≤ 3 := depL_of fun a ha => by
      obtain ⟨x, hx, rfl⟩ := List.mem_map.mp ha
      have d2 : depL ((grpL N mul x).map (fun (n : Nat) => RA.D.int n)) ≤ 1 := depL_of fun a ha => by
        obtain ⟨y, hy, rfl⟩ := List.mem_map.mp ha
        simp only [depD]; omega
      simp only [depD, depL]; omega
    simp only [depD]; omega
  refine (same_ok 8 _ _ dd pd pd).trans ?_
  rw [sameD_refl _ pd]
theorem w_swi {F : FT} {n : Nat} {r : WS} {G : Ev} (h : freeG G = true) : wx F n (.swi r) G = wx F n r G := if_pos h
theorem w_cle {F : FT} {n i j k1 k2 : Nat} {e t : IE} {r : WS} {G : Ev} {ds : List RA.D} {fl : Fl} {d : RA.D} (hj : G[j]? = some (some (false, .lst ds))) (h : (ds.all pairIL && noOwn G && decide (i ≠ j) && decide (k1 ≠ k2) && decide (k2 < G.length)) = true)
    (he : ev F e (killI (G.set j none)) = .ok (fl, d)) (hf : fl ≠ .tmp) (ht : asB (ev F t (G.set i (some (false, d)))) = .ok false) : wx F n (.cle i j k1 k2 e t r) G = wx F n r (forget [k1, k2] ((killI (G.set j none)).set i (some (false, d)))) := by
  show cleO F i j k1 k2 e t (wx F n r) G G[j]? = _
  rw [hj]
  show (if _ then cleE F G (killI (G.set j none)) i k1 k2 t (wx F n r) (ev F e (killI (G.set j none))) else .no) = _
  rw [if_pos h, he]
  show (if fl = .tmp then .no else cleT (killI (G.set j none)) i k1 k2 d (wx F n r) (asB (ev F t (G.set i (some (false, d)))))) = _
  rw [if_neg hf, ht]; rfl
theorem law_holds (ns : List Int) (hns : ns.length ≤ 63) : m_law_top_65 [.lst (ns.map .int)] = .ok (false, .bl true) := by
  refine mkW_of rfl ?_
  unfold w_law_top_65
  have c0 : m_law_cell_at [.lst (ns.map .int), .int 0] = .ok (false, .int (ns.getD 0 0)) := cell_at_ok ns 0
  generalize ns.getD 0 0 = z0 at c0
  obtain ⟨s0, hs, L0⟩ := letters2_ok z0
  obtain ⟨s, rows, marks, hm, M, hn⟩ := acting_ok ns L0
  have L := M.ltrs
  have sl := L.le
  obtain ⟨f, i, e1, I, f43, fi⟩ := law_acts_ok M (by omega)
  have fil : (f.map (·.1)).length = f.length := List.length_map ..
  have nm : noL (mD s rows marks) = true := noL_mD (s := s) (rows := rows) (marks := marks)
  have fg : freeG [none, some (false, RA.D.str s0), some (false, mD s rows marks), none, none, none, none, none, none, none] = true := by
    unfold freeG
    simp only [List.all_cons, List.all_nil, nm, noL, Bool.and_true]
  by_cases q : (40 : Int) < f.length
  · obtain ⟨g, j, ea, J, g41, g43⟩ : ∃ g i, m_acts_2 [mD s rows marks] = .ex 59 [.lst ((g.take 41).map fun p => .str (sp s p.2))] ∧ Bfs s.length (ast rows) (List.range rows.length) g i s.length ∧ 41 ≤ g.length ∧ g.length ≤ 43 := by
      rcases acts_ok M (by omega) with ⟨g, _, J, g40⟩ | h
      · have := J.most (Nat.le_refl _) I
        omega
      · exact h
    have a := asked6_ex ea
    have rw' := refused_well2_ok M (by omega) J g41 g43
    have tw := twice_ok a rw'
    dsimp! [sat_wst, w_fgt, w_swi fg, c0, hs, hm, e1, q, w_cas, cas_t, w_kret, gate_n, kret_t, wcall_eq, wcO_ok, wb_ok, tw]
  have f40 : f.length ≤ 40 := by omega
  have fi : i = f.length := by omega
  subst fi
  obtain ⟨g, e2, J, g40⟩ : ∃ g, m_acts_2 [mD s rows marks] = .ok (true, .lst (g.map (AE s))) ∧ Bfs s.length (ast rows) (List.range rows.length) g g.length 0 ∧ g.length ≤ 40 := by
    rcases acts_ok M (by omega) with h | ⟨g, i, _, J, g41, _⟩
    · exact h
    · have := I.most (Nat.le_refl _) J
      omega
  have e := I.uniq2 (Nat.le_refl _) J (Nat.le_refl _)
  subst e
  have e3 := table_ok M (by omega) e2 J g40
  rw [TB_tab] at e3
  have h0 : (f.map (·.1))[0]? = some (List.range rows.length) := by rw [List.getElem?_map, I.hd]; rfl
  have Jm := jn_of (n := rows.length) (by omega) (bfs_acts M I (Nat.le_refl _)) I.nd
  have e5 := groups_of_ok (by omega) e3
  have a := asked6_ok e5
  have du := due3_ok Jm (by omega)
  have N1 : (f.map (·.1)).length ≤ 1000 := by omega
  have sm := same_grps N1 (mul := mulF (f.map (·.1)))
  have pl := pair_IL (N := (f.map (·.1)).length) (mul := mulF (f.map (·.1)))
  have F0 : 0 < (f.map (·.1)).length := (List.getElem?_eq_some_iff.mp h0).1
  have nr := noIL_rows F0
  clear e2 e3 h0 Jm
  generalize dIx 0 (f.map (·.1)) = ix at e1
  generalize grpsD (f.map (·.1)).length (mulF (f.map (·.1))) = gs at e5 a du sm pl
  have k1 : keepI (some (false, RA.D.str s0)) = some (false, RA.D.str s0) := rfl
  have k2 : keepI (some (false, mD s rows marks)) = some (false, mD s rows marks) := if_pos (noIL_of nm)
  have k3 : keepI (some (false, RA.D.lst ((f.map (·.1)).map (fun r : List Nat => RA.D.tup (r.map (fun (n : Nat) => RA.D.int n)))))) = some (false, RA.D.lst ((f.map (·.1)).map (fun r : List Nat => RA.D.tup (r.map (fun (n : Nat) => RA.D.int n))))) := if_pos nr
  have k4 : keepI (some (false, RA.D.dct (kv (fun r : List Nat => RA.D.tup (r.map (fun (n : Nat) => RA.D.int n))) ix))) = none := rfl
  have k5 : keepI (some (false, RA.D.non)) = some (false, RA.D.non) := rfl
  have k6 : keepI none = none := rfl
  have kk : killI [none, some (false, RA.D.str s0), some (false, mD s rows marks), none, some (false, RA.D.lst ((f.map (·.1)).map (fun r : List Nat => RA.D.tup (r.map (fun (n : Nat) => RA.D.int n))))), some (false, RA.D.dct (kv (fun r : List Nat => RA.D.tup (r.map (fun (n : Nat) => RA.D.int n))) ix)), none, some (false, RA.D.non), none, none] = [none, some (false, RA.D.str s0), some (false, mD s rows marks), none, some (false, RA.D.lst ((f.map (·.1)).map (fun r : List Nat => RA.D.tup (r.map (fun (n : Nat) => RA.D.int n))))), none, none, some (false, RA.D.non), none, none] := by
    unfold killI
    simp only [List.map_cons, List.map_nil, k1, k2, k3, k4, k5, k6]
  have cl : ∀ r, wx f_law_top_65 FUEL (.cle 3 6 8 9 (.call 527 (.cons (.v 4) .nil)) (.not_ (.call 69 (.cons (.v 6) (.cons (.v 3) .nil)))) r) [none, some (false, RA.D.str s0), some (false, mD s rows marks), none, some (false, RA.D.lst ((f.map (·.1)).map (fun r : List Nat => RA.D.tup (r.map (fun (n : Nat) => RA.D.int n))))), some (false, RA.D.dct (kv (fun r : List Nat => RA.D.tup (r.map (fun (n : Nat) => RA.D.int n))) ix)), some (false, .lst gs), some (false, RA.D.non), none, none] = wx f_law_top_65 FUEL r [none, some (false, RA.D.str s0), some (false, mD s rows marks), some (false, .lst gs), some (false, RA.D.lst ((f.map (·.1)).map (fun r : List Nat => RA.D.tup (r.map (fun (n : Nat) => RA.D.int n))))), none, none, some (false, RA.D.non), none, none] := by
    intro r
    refine (w_cle (fl := .own) (d := .lst gs) rfl (by rw [pl]; rfl) ?_ (by decide) ?_).trans ?_
    · show ev f_law_top_65 (.call 527 (.cons (.v 4) .nil)) (killI [none, some (false, RA.D.str s0), some (false, mD s rows marks), none, some (false, RA.D.lst ((f.map (·.1)).map (fun r : List Nat => RA.D.tup (r.map (fun (n : Nat) => RA.D.int n))))), some (false, RA.D.dct (kv (fun r : List Nat => RA.D.tup (r.map (fun (n : Nat) => RA.D.int n))) ix)), none, some (false, RA.D.non), none, none]) = _
      rw [kk]
      dsimp! [du]
    · show asB (ev f_law_top_65 _ [none, some (false, RA.D.str s0), some (false, mD s rows marks), some (false, RA.D.lst gs), some (false, RA.D.lst ((f.map (·.1)).map (fun r : List Nat => RA.D.tup (r.map (fun (n : Nat) => RA.D.int n))))), some (false, RA.D.dct (kv (fun r : List Nat => RA.D.tup (r.map (fun (n : Nat) => RA.D.int n))) ix)), some (false, .lst gs), some (false, RA.D.non), none, none]) = _
      dsimp! [sm]
    · show wx f_law_top_65 FUEL r (forget [8, 9] ((killI [none, some (false, RA.D.str s0), some (false, mD s rows marks), none, some (false, RA.D.lst ((f.map (·.1)).map (fun r : List Nat => RA.D.tup (r.map (fun (n : Nat) => RA.D.int n))))), some (false, RA.D.dct (kv (fun r : List Nat => RA.D.tup (r.map (fun (n : Nat) => RA.D.int n))) ix)), none, some (false, RA.D.non), none, none]).set 3 _)) = _
      rw [kk]; rfl
  dsimp! [sat_wst, w_fgt, w_swi fg, c0, hs, hm, e1, q, w_cas, cas_f, a, cl]
  dsimp! [sat_wst, a, sm, quiet_ok]
end RA
namespace RA
open PySem PySem.Spec PyProof.Rows L2
/-! the law's own text: checks and facts -/
def tops (i : Nat) : Stmt := PySem.Challenge.pw_roomalgebra_k62_groups_of_acts.main.body.getD i (.Pass ⟨0, 0, 0, 0⟩)
def nms : Nat → Str := fun n => match n with | 22 => "_law_letters" | 6 => "_law_cell_at" | 23 => "_law_machine" | 180 => "_law_turns" | 181 => "_law_order" | 182 => "_law_third" | 183 => "_law_forty" | 184 => "_law_acting" | 185 => "_law_acts" | 193 => "acts" | 194 => "table" | 386 => "group_about" | 387 => "groups_of" | 524 => "_law_asked" | 525 => "_law_join" | 526 => "_law_group" | 527 => "_law_due" | 69 => "_law_same" | 213 => "_law_kinds" | 27 => "_law_after" | 171 => "_law_act" | 15 => "_law_is_word" | 214 => "_law_refused_well" | 528 => "_law_twice_refused" | 529 => "law" | 179 => "MOST" | _ => ""
def s_law_letters_2 : Stat := { N := ["_law_cell", "_law_left", "_law_number", "_law_many", "_law_found", "_law_k", "_law_at"], nm := nms, us := [], gs := [], bs := ["range", "len"], F := f_law_letters_2, k := 0 }
def x_law_letters_2 : List (Nat × Str) := []
theorem sc_law_letters_2 : FnScope (s_law_letters_2).N ["_law_cell"] (defScope (tops 21)) := ⟨rfl, rfl, rfl, by decide +kernel, rfl, by decide +kernel, by decide +kernel⟩
theorem ck_law_letters_2 : okSts s_law_letters_2 x_law_letters_2 (defScope (tops 21)) i_law_letters_2 (defBody (tops 21)) = true := by decide +kernel
def s_law_cell_at : Stat := { N := ["_law_script", "_law_k"], nm := nms, us := [], gs := [], bs := ["len"], F := f_law_cell_at, k := 0 }
def x_law_cell_at : List (Nat × Str) := []
theorem sc_law_cell_at : FnScope (s_law_cell_at).N ["_law_script", "_law_k"] (defScope (tops 20)) := ⟨rfl, rfl, rfl, by decide +kernel, rfl, by decide +kernel, by decide +kernel⟩
theorem ck_law_cell_at : okSts s_law_cell_at x_law_cell_at (defScope (tops 20)) i_law_cell_at (defBody (tops 20)) = true := by decide +kernel
def s_law_machine : Stat := { N := ["_law_script", "_law_at", "_law_rooms", "_law_letters_here", "_law_ways", "_law_marks", "_law_number", "_law_k", "_law_rest", "_law_row", "_law_sign"], nm := nms, us := [6], gs := [], bs := ["range", "tuple"], F := f_law_machine, k := 1 }
def x_law_machine : List (Nat × Str) := []
theorem sc_law_machine : FnScope (s_law_machine).N ["_law_script", "_law_at", "_law_rooms", "_law_letters_here"] (defScope (tops 22)) := ⟨rfl, rfl, rfl, by decide +kernel, rfl, by decide +kernel, by decide +kernel⟩
theorem ck_law_machine : okSts s_law_machine x_law_machine (defScope (tops 22)) i_law_machine (defBody (tops 22)) = true := by decide +kernel
def s_law_turns : Stat := { N := ["_law_script", "_law_letters_here", "_law_rooms", "_law_ways", "_law_room", "_law_row", "_law_k", "_law_back"], nm := nms, us := [6], gs := [], bs := ["range", "tuple", "len"], F := f_law_turns, k := 1 }
def x_law_turns : List (Nat × Str) := []
theorem sc_law_turns : FnScope (s_law_turns).N ["_law_script", "_law_letters_here"] (defScope (tops 24)) := ⟨rfl, rfl, rfl, by decide +kernel, rfl, by decide +kernel, by decide +kernel⟩
theorem ck_law_turns : okSts s_law_turns x_law_turns (defScope (tops 24)) i_law_turns (defBody (tops 24)) = true := by decide +kernel
def s_law_order : Stat := { N := ["_law_cell", "_law_many", "_law_found", "_law_number", "_law_k"], nm := nms, us := [], gs := [], bs := ["range"], F := f_law_order, k := 0 }
def x_law_order : List (Nat × Str) := []
theorem sc_law_order : FnScope (s_law_order).N ["_law_cell", "_law_many"] (defScope (tops 25)) := ⟨rfl, rfl, rfl, by decide +kernel, rfl, by decide +kernel, by decide +kernel⟩
theorem ck_law_order : okSts s_law_order x_law_order (defScope (tops 25)) i_law_order (defBody (tops 25)) = true := by decide +kernel
def s_law_third : Stat := { N := ["_law_kind", "_law_room"], nm := nms, us := [], gs := [], bs := [], F := f_law_third, k := 0 }
def x_law_third : List (Nat × Str) := []
theorem sc_law_third : FnScope (s_law_third).N ["_law_kind", "_law_room"] (defScope (tops 26)) := ⟨rfl, rfl, rfl, by decide +kernel, rfl, by decide +kernel, by decide +kernel⟩
theorem ck_law_third : okSts s_law_third x_law_third (defScope (tops 26)) i_law_third (defBody (tops 26)) = true := by decide +kernel
def s_law_forty : Stat := { N := ["_law_script", "_law_letters_here", "_law_kind", "_law_rooms", "_law_order_here", "_law_turn", "_law_ways", "_law_room", "_law_goals", "_law_row", "_law_k"], nm := nms, us := [181, 6, 182], gs := [], bs := ["int", "range", "tuple", "len"], F := f_law_forty, k := 1 }
def x_law_forty : List (Nat × Str) := []
theorem sc_law_forty : FnScope (s_law_forty).N ["_law_script", "_law_letters_here"] (defScope (tops 27)) := ⟨rfl, rfl, rfl, by decide +kernel, rfl, by decide +kernel, by decide +kernel⟩
theorem ck_law_forty : okSts s_law_forty x_law_forty (defScope (tops 27)) i_law_forty (defBody (tops 27)) = true := by decide +kernel
def s_law_acting : Stat := { N := ["_law_script", "_law_letters_here", "_law_kind", "_law_size"], nm := nms, us := [6, 23, 180, 183], gs := [], bs := [], F := f_law_acting, k := 2 }
def x_law_acting : List (Nat × Str) := []
theorem sc_law_acting : FnScope (s_law_acting).N ["_law_script", "_law_letters_here"] (defScope (tops 28)) := ⟨rfl, rfl, rfl, by decide +kernel, rfl, by decide +kernel, by decide +kernel⟩
theorem ck_law_acting : okSts s_law_acting x_law_acting (defScope (tops 28)) i_law_acting (defBody (tops 28)) = true := by decide +kernel
def s_law_acts : Stat := { N := ["_law_machine_here", "_law_found", "_law_seen", "_law_at", "_law_k", "_law_act_here", "_law_room"], nm := nms, us := [], gs := [], bs := ["tuple", "range", "len"], F := f_law_acts, k := 0, xts := [.rgt] }
def x_law_acts : List (Nat × Str) := []
theorem sc_law_acts : FnScope (s_law_acts).N ["_law_machine_here"] (defScope (tops 30)) := ⟨rfl, rfl, rfl, by decide +kernel, rfl, by decide +kernel, by decide +kernel⟩
theorem ck_law_acts : okSts s_law_acts x_law_acts (defScope (tops 30)) i_law_acts (defBody (tops 30)) = true := by decide +kernel
def s_acts_2 : Stat := { N := ["machine", "letters", "row", "seen", "at", "k", "word", "act", "after", "room", "told"], nm := nms, us := [], gs := [179], bs := ["len", "range", "tuple"], F := f_acts_2, k := 2, yts := [.rsx 59 "TooGreat" 1], xts := [.rgt] }
def x_acts_2 : List (Nat × Str) := []
theorem sc_acts_2 : FnScope (s_acts_2).N ["machine"] (defScope (tops 14)) := ⟨rfl, rfl, rfl, by decide +kernel, rfl, by decide +kernel, by decide +kernel⟩
theorem ck_acts_2 : okSts s_acts_2 x_acts_2 (defScope (tops 14)) i_acts_2 (defBody (tops 14)) = true := by decide +kernel
def s_table_2 : Stat := { N := ["machine", "row", "places", "at", "rows", "word", "act", "goals", "other", "after", "room"], nm := nms, us := [193], gs := [], bs := ["range", "len", "tuple"], F := f_table_2, k := 3 }
def x_table_2 : List (Nat × Str) := []
theorem sc_table_2 : FnScope (s_table_2).N ["machine"] (defScope (tops 15)) := ⟨rfl, rfl, rfl, by decide +kernel, rfl, by decide +kernel, by decide +kernel⟩
theorem ck_table_2 : okSts s_table_2 x_table_2 (defScope (tops 15)) i_table_2 (defBody (tops 15)) = true := by decide +kernel
def s_group_about : Stat := { N := ["rows", "once", "kept", "found", "one", "place", "other"], nm := nms, us := [], gs := [], bs := ["any", "range", "len"], F := f_group_about, k := 0 }
def x_group_about : List (Nat × Str) := []
theorem sc_group_about : FnScope (s_group_about).N ["rows", "once"] (defScope (tops 17)) := ⟨rfl, rfl, rfl, by decide +kernel, rfl, by decide +kernel, by decide +kernel⟩
theorem ck_group_about : okSts s_group_about x_group_about (defScope (tops 17)) i_group_about (defBody (tops 17)) = true := by decide +kernel
def s_groups_of : Stat := { N := ["machine", "rows", "onces", "place", "once"], nm := nms, us := [194, 386], gs := [], bs := ["range", "len"], F := f_groups_of, k := 4 }
def x_groups_of : List (Nat × Str) := []
theorem sc_groups_of : FnScope (s_groups_of).N ["machine"] (defScope (tops 18)) := ⟨rfl, rfl, rfl, by decide +kernel, rfl, by decide +kernel, by decide +kernel⟩
theorem ck_groups_of : okSts s_groups_of x_groups_of (defScope (tops 18)) i_groups_of (defBody (tops 18)) = true := by decide +kernel
def s_law_asked_6 : Stat := { N := ["_law_machine_here", "_law_caught", "_law_told", "_law_e"], nm := nms, us := [387], gs := [], bs := [], F := f_law_asked_6, k := 5, trs := [("RoomError", [59], [])] }
def x_law_asked_6 : List (Nat × Str) := []
theorem sc_law_asked_6 : FnScope (s_law_asked_6).N ["_law_machine_here"] (defScope (tops 38)) := ⟨rfl, rfl, rfl, by decide +kernel, rfl, by decide +kernel, by decide +kernel⟩
theorem ck_law_asked_6 : okSts s_law_asked_6 x_law_asked_6 (defScope (tops 38)) i_law_asked_6 (defBody (tops 38)) = true := by decide +kernel
def s_law_join : Stat := { N := ["_law_one", "_law_other", "_law_room"], nm := nms, us := [], gs := [], bs := ["tuple"], F := f_law_join, k := 0 }
def x_law_join : List (Nat × Str) := []
theorem sc_law_join : FnScope (s_law_join).N ["_law_one", "_law_other"] (defScope (tops 31)) := ⟨rfl, rfl, rfl, by decide +kernel, rfl, by decide +kernel, by decide +kernel⟩
theorem ck_law_join : okSts s_law_join x_law_join (defScope (tops 31)) i_law_join (defBody (tops 31)) = true := by decide +kernel
def s_law_group : Stat := { N := ["_law_found", "_law_once", "_law_kept", "_law_k", "_law_members", "_law_leads", "_law_j"], nm := nms, us := [525], gs := [], bs := ["range", "len", "any"], F := f_law_group, k := 1 }
def x_law_group : List (Nat × Str) := []
theorem sc_law_group : FnScope (s_law_group).N ["_law_found", "_law_once"] (defScope (tops 32)) := ⟨rfl, rfl, rfl, by decide +kernel, rfl, by decide +kernel, by decide +kernel⟩
theorem ck_law_group : okSts s_law_group x_law_group (defScope (tops 32)) i_law_group (defBody (tops 32)) = true := by decide +kernel
def s_law_due_3 : Stat := { N := ["_law_found", "_law_due_here", "_law_k"], nm := nms, us := [525, 526], gs := [], bs := ["range", "len"], F := f_law_due_3, k := 2 }
def x_law_due_3 : List (Nat × Str) := []
theorem sc_law_due_3 : FnScope (s_law_due_3).N ["_law_found"] (defScope (tops 33)) := ⟨rfl, rfl, rfl, by decide +kernel, rfl, by decide +kernel, by decide +kernel⟩
theorem ck_law_due_3 : okSts s_law_due_3 x_law_due_3 (defScope (tops 33)) i_law_due_3 (defBody (tops 33)) = true := by decide +kernel
def s_law_same (k : Nat) : Stat := { N := ["_law_found", "_law_due_here", "_law_k"], nm := nms, us := [69], gs := [], bs := ["isinstance", "bool", "int", "str", "tuple", "list", "range", "len"], F := f_law_same (r_law_same k), k := 0 + k }
def x_law_same : List (Nat × Str) := []
theorem sc_law_same : FnScope (s_law_same 0).N ["_law_found", "_law_due_here"] (defScope (tops 29)) := ⟨rfl, rfl, rfl, by decide +kernel, rfl, by decide +kernel, by decide +kernel⟩
theorem ck_law_same (k : Nat) : okSts (s_law_same k) x_law_same (defScope (tops 29)) i_law_same (defBody (tops 29)) = true := by kernel_rfl
def s_law_kinds_7 : Stat := { N := ["_law_e", "_law_found"], nm := nms, us := [], gs := [], bs := ["isinstance"], F := f_law_kinds_7, k := 0, xts := [.isc "NoLetters" [] [59], .isc "NoWord" [] [59], .isc "NoNumber" [] [59], .isc "NoRoom" [] [59], .isc "NoMachine" [] [59], .isc "OtherLetters" [] [59], .isc "TooMany" [] [59], .isc "NoPattern" [] [59], .isc "TooGreat" [59] [], .isc "NoKind" [] [59], .isc "ValueError" [59] []] }
def x_law_kinds_7 : List (Nat × Str) := []
theorem sc_law_kinds_7 : FnScope (s_law_kinds_7).N ["_law_e"] (defScope (tops 36)) := ⟨rfl, rfl, rfl, by decide +kernel, rfl, by decide +kernel, by decide +kernel⟩
theorem ck_law_kinds_7 : okSts s_law_kinds_7 x_law_kinds_7 (defScope (tops 36)) i_law_kinds_7 (defBody (tops 36)) = true := by decide +kernel
def s_law_after : Stat := { N := ["_law_machine_here", "_law_room", "_law_word", "_law_sign"], nm := nms, us := [], gs := [], bs := [], F := f_law_after, k := 0 }
def x_law_after : List (Nat × Str) := []
theorem sc_law_after : FnScope (s_law_after).N ["_law_machine_here", "_law_room", "_law_word"] (defScope (tops 23)) := ⟨rfl, rfl, rfl, by decide +kernel, rfl, by decide +kernel, by decide +kernel⟩
theorem ck_law_after : okSts s_law_after x_law_after (defScope (tops 23)) i_law_after (defBody (tops 23)) = true := by decide +kernel
def s_law_act : Stat := { N := ["_law_machine_here", "_law_word", "_law_room"], nm := nms, us := [27], gs := [], bs := ["tuple", "range", "len"], F := f_law_act, k := 1 }
def x_law_act : List (Nat × Str) := []
theorem sc_law_act : FnScope (s_law_act).N ["_law_machine_here", "_law_word"] (defScope (tops 34)) := ⟨rfl, rfl, rfl, by decide +kernel, rfl, by decide +kernel, by decide +kernel⟩
theorem ck_law_act : okSts s_law_act x_law_act (defScope (tops 34)) i_law_act (defBody (tops 34)) = true := by decide +kernel
def s_law_is_word : Stat := { N := ["_law_found", "_law_letters_here", "_law_sign"], nm := nms, us := [], gs := [], bs := ["isinstance", "str", "len"], F := f_law_is_word, k := 0 }
def x_law_is_word : List (Nat × Str) := []
theorem sc_law_is_word : FnScope (s_law_is_word).N ["_law_found", "_law_letters_here"] (defScope (tops 35)) := ⟨rfl, rfl, rfl, by decide +kernel, rfl, by decide +kernel, by decide +kernel⟩
theorem ck_law_is_word : okSts s_law_is_word x_law_is_word (defScope (tops 35)) i_law_is_word (defBody (tops 35)) = true := by decide +kernel
def s_law_refused_well_2 : Stat := { N := ["_law_caught", "_law_machine_here", "_law_seen", "_law_word"], nm := nms, us := [213, 171, 15], gs := [], bs := ["len", "isinstance", "list"], F := f_law_refused_well_2, k := 2, xts := [.fld 59 0 "words"] }
def x_law_refused_well_2 : List (Nat × Str) := []
theorem sc_law_refused_well_2 : FnScope (s_law_refused_well_2).N ["_law_caught", "_law_machine_here"] (defScope (tops 37)) := ⟨rfl, rfl, rfl, by decide +kernel, rfl, by decide +kernel, by decide +kernel⟩
def k_law_refused_well_2 : List Nat := []
theorem ck_law_refused_well_2 : okW s_law_refused_well_2 x_law_refused_well_2 k_law_refused_well_2 (defScope (tops 37)) w_law_refused_well_2 (defBody (tops 37)) = true := by decide +kernel
def s_law_twice_refused_2 : Stat := { N := ["_law_machine_here", "_law_k", "_law_told", "_law_caught"], nm := nms, us := [524], gs := [], bs := ["range"], F := f_law_twice_refused_2, k := 6 }
def x_law_twice_refused_2 : List (Nat × Str) := []
theorem sc_law_twice_refused_2 : FnScope (s_law_twice_refused_2).N ["_law_machine_here"] (defScope (tops 39)) := ⟨rfl, rfl, rfl, by decide +kernel, rfl, by decide +kernel, by decide +kernel⟩
def k_law_twice_refused_2 : List Nat := [214]
theorem ck_law_twice_refused_2 : okW s_law_twice_refused_2 x_law_twice_refused_2 k_law_twice_refused_2 (defScope (tops 39)) w_law_twice_refused_2 (defBody (tops 39)) = true := by decide +kernel
def s_law_top_65 : Stat := { N := ["_law_script", "_law_letters_here", "_law_machine_here", "_law_due_here", "_law_found", "_law_places", "_law_told", "_law_caught", "_law_once", "_law_members"], nm := nms, us := [22, 184, 185, 524, 527, 69, 6], gs := [], bs := ["len"], F := f_law_top_65, k := 8 }
def x_law_top_65 : List (Nat × Str) := []
theorem sc_law_top_65 : FnScope (s_law_top_65).N ["_law_script"] (defScope (tops 40)) := ⟨rfl, rfl, rfl, by decide +kernel, rfl, by decide +kernel, by decide +kernel⟩
def k_law_top_65 : List Nat := [528]
theorem ck_law_top_65 : okW s_law_top_65 x_law_top_65 k_law_top_65 (defScope (tops 40)) w_law_top_65 (defBody (tops 40)) = true := by decide +kernel
theorem sci59 : FnScope ["self", "words"] ["self", "words"] (defScope (inner 0 (tops 10))) := ⟨rfl, rfl, rfl, by decide +kernel, rfl, by decide +kernel, by decide +kernel⟩
theorem all_mk {P : Program} {w : World} {K : PySem.W.Frag} {h : Heap} {mg : Str → Option Value} {fa : Addr} (X : K.In h) (G : h.Ns mainGlobals mg) (hfa : mg "law" = some (.ref fa))
    {f22 : Addr} {od22 an22 : Option Addr} {sl22 : Array (Option Value)} {oc22 kV22 dc22 pm22 cd22 ct22 : Value}
    {f6 : Addr} {od6 an6 : Option Addr} {sl6 : Array (Option Value)} {oc6 kV6 dc6 pm6 cd6 ct6 : Value}
    {f23 : Addr} {od23 an23 : Option Addr} {sl23 : Array (Option Value)} {oc23 kV23 dc23 pm23 cd23 ct23 : Value}
    {f180 : Addr} {od180 an180 : Option Addr} {sl180 : Array (Option Value)} {oc180 kV180 dc180 pm180 cd180 ct180 : Value}
    {f181 : Addr} {od181 an181 : Option Addr} {sl181 : Array (Option Value)} {oc181 kV181 dc181 pm181 cd181 ct181 : Value}
    {f182 : Addr} {od182 an182 : Option Addr} {sl182 : Array (Option Value)} {oc182 kV182 dc182 pm182 cd182 ct182 : Value}
    {f183 : Addr} {od183 an183 : Option Addr} {sl183 : Array (Option Value)} {oc183 kV183 dc183 pm183 cd183 ct183 : Value}
    {f184 : Addr} {od184 an184 : Option Addr} {sl184 : Array (Option Value)} {oc184 kV184 dc184 pm184 cd184 ct184 : Value}
    {f185 : Addr} {od185 an185 : Option Addr} {sl185 : Array (Option Value)} {oc185 kV185 dc185 pm185 cd185 ct185 : Value}
    {f193 : Addr} {od193 an193 : Option Addr} {sl193 : Array (Option Value)} {oc193 kV193 dc193 pm193 cd193 ct193 : Value}
    {f194 : Addr} {od194 an194 : Option Addr} {sl194 : Array (Option Value)} {oc194 kV194 dc194 pm194 cd194 ct194 : Value}
    {f386 : Addr} {od386 an386 : Option Addr} {sl386 : Array (Option Value)} {oc386 kV386 dc386 pm386 cd386 ct386 : Value}
    {f387 : Addr} {od387 an387 : Option Addr} {sl387 : Array (Option Value)} {oc387 kV387 dc387 pm387 cd387 ct387 : Value}
    {f524 : Addr} {od524 an524 : Option Addr} {sl524 : Array (Option Value)} {oc524 kV524 dc524 pm524 cd524 ct524 : Value}
    {f525 : Addr} {od525 an525 : Option Addr} {sl525 : Array (Option Value)} {oc525 kV525 dc525 pm525 cd525 ct525 : Value}
    {f526 : Addr} {od526 an526 : Option Addr} {sl526 : Array (Option Value)} {oc526 kV526 dc526 pm526 cd526 ct526 : Value}
    {f527 : Addr} {od527 an527 : Option Addr} {sl527 : Array (Option Value)} {oc527 kV527 dc527 pm527 cd527 ct527 : Value}
    {f69 : Addr} {od69 an69 : Option Addr} {sl69 : Array (Option Value)} {oc69 kV69 dc69 pm69 cd69 ct69 : Value}
    {f213 : Addr} {od213 an213 : Option Addr} {sl213 : Array (Option Value)} {oc213 kV213 dc213 pm213 cd213 ct213 : Value}
    {f27 : Addr} {od27 an27 : Option Addr} {sl27 : Array (Option Value)} {oc27 kV27 dc27 pm27 cd27 ct27 : Value}
    {f171 : Addr} {od171 an171 : Option Addr} {sl171 : Array (Option Value)} {oc171 kV171 dc171 pm171 cd171 ct171 : Value}
    {f15 : Addr} {od15 an15 : Option Addr} {sl15 : Array (Option Value)} {oc15 kV15 dc15 pm15 cd15 ct15 : Value}
    {f214 : Addr} {od214 an214 : Option Addr} {sl214 : Array (Option Value)} {oc214 kV214 dc214 pm214 cd214 ct214 : Value}
    {f528 : Addr} {od528 an528 : Option Addr} {sl528 : Array (Option Value)} {oc528 kV528 dc528 pm528 cd528 ct528 : Value}
    {f529 : Addr} {od529 an529 : Option Addr} {sl529 : Array (Option Value)} {oc529 kV529 dc529 pm529 cd529 ct529 : Value}
    {t179 : Tok}
    {C59 : Addr} {nm59 qq59 : Str} {N59_ fi59 : Addr} {bs59 bm59 sb59 : List Value} {sn59 : List Str} {ab59 : Bool} {col59 : Option Bool} {dd59 : Option Addr} {kk0_59 kk1_59 kk2_59 kk3_59 kk5_59 : Option Value} {odi59 ani59 : Option Addr} {sli59 : Array (Option Value)} {oci59 kVi59 dci59 pmi59 cdi59 cti59 : Value}
    {CB : Addr}
    {C1 : Addr}
    {C2 : Addr}
    {C3 : Addr}
    {C4 : Addr}
    {C21 : Addr}
    {C55 : Addr}
    {C56 : Addr}
    {C57 : Addr}
    {C58 : Addr}
    {C60 : Addr}
    (a22 : PySem.W.nsIn K mainGlobals "_law_letters" = some (some (.ref f22)))
    (l22 : K.lookup f22 = some ⟨oc22, od22, .func (PySem.W.fnOf "_law_letters" "_law_letters" (defArgs (tops 21)) (defBody (tops 21)) (defScope (tops 21)) .none kV22 dc22 pm22 an22 cd22 ct22), sl22⟩)
    (c22 : PySem.W.codeIn K cd22 "_law_letters" = true)
    (k22 : PySem.W.keepIn K (.ref f22) = true)
    (a6 : PySem.W.nsIn K mainGlobals "_law_cell_at" = some (some (.ref f6)))
    (l6 : K.lookup f6 = some ⟨oc6, od6, .func (PySem.W.fnOf "_law_cell_at" "_law_cell_at" (defArgs (tops 20)) (defBody (tops 20)) (defScope (tops 20)) .none kV6 dc6 pm6 an6 cd6 ct6), sl6⟩)
    (c6 : PySem.W.codeIn K cd6 "_law_cell_at" = true)
    (k6 : PySem.W.keepIn K (.ref f6) = true)
    (a23 : PySem.W.nsIn K mainGlobals "_law_machine" = some (some (.ref f23)))
    (l23 : K.lookup f23 = some ⟨oc23, od23, .func (PySem.W.fnOf "_law_machine" "_law_machine" (defArgs (tops 22)) (defBody (tops 22)) (defScope (tops 22)) .none kV23 dc23 pm23 an23 cd23 ct23), sl23⟩)
    (c23 : PySem.W.codeIn K cd23 "_law_machine" = true)
    (k23 : PySem.W.keepIn K (.ref f23) = true)
    (a180 : PySem.W.nsIn K mainGlobals "_law_turns" = some (some (.ref f180)))
    (l180 : K.lookup f180 = some ⟨oc180, od180, .func (PySem.W.fnOf "_law_turns" "_law_turns" (defArgs (tops 24)) (defBody (tops 24)) (defScope (tops 24)) .none kV180 dc180 pm180 an180 cd180 ct180), sl180⟩)
    (c180 : PySem.W.codeIn K cd180 "_law_turns" = true)
    (k180 : PySem.W.keepIn K (.ref f180) = true)
    (a181 : PySem.W.nsIn K mainGlobals "_law_order" = some (some (.ref f181)))
    (l181 : K.lookup f181 = some ⟨oc181, od181, .func (PySem.W.fnOf "_law_order" "_law_order" (defArgs (tops 25)) (defBody (tops 25)) (defScope (tops 25)) .none kV181 dc181 pm181 an181 cd181 ct181), sl181⟩)
    (c181 : PySem.W.codeIn K cd181 "_law_order" = true)
    (k181 : PySem.W.keepIn K (.ref f181) = true)
    (a182 : PySem.W.nsIn K mainGlobals "_law_third" = some (some (.ref f182)))
    (l182 : K.lookup f182 = some ⟨oc182, od182, .func (PySem.W.fnOf "_law_third" "_law_third" (defArgs (tops 26)) (defBody (tops 26)) (defScope (tops 26)) .none kV182 dc182 pm182 an182 cd182 ct182), sl182⟩)
    (c182 : PySem.W.codeIn K cd182 "_law_third" = true)
    (k182 : PySem.W.keepIn K (.ref f182) = true)
    (a183 : PySem.W.nsIn K mainGlobals "_law_forty" = some (some (.ref f183)))
    (l183 : K.lookup f183 = some ⟨oc183, od183, .func (PySem.W.fnOf "_law_forty" "_law_forty" (defArgs (tops 27)) (defBody (tops 27)) (defScope (tops 27)) .none kV183 dc183 pm183 an183 cd183 ct183), sl183⟩)
    (c183 : PySem.W.codeIn K cd183 "_law_forty" = true)
    (k183 : PySem.W.keepIn K (.ref f183) = true)
    (a184 : PySem.W.nsIn K mainGlobals "_law_acting" = some (some (.ref f184)))
    (l184 : K.lookup f184 = some ⟨oc184, od184, .func (PySem.W.fnOf "_law_acting" "_law_acting" (defArgs (tops 28)) (defBody (tops 28)) (defScope (tops 28)) .none kV184 dc184 pm184 an184 cd184 ct184), sl184⟩)
    (c184 : PySem.W.codeIn K cd184 "_law_acting" = true)
    (k184 : PySem.W.keepIn K (.ref f184) = true)
    (a185 : PySem.W.nsIn K mainGlobals "_law_acts" = some (some (.ref f185)))
    (l185 : K.lookup f185 = some ⟨oc185, od185, .func (PySem.W.fnOf "_law_acts" "_law_acts" (defArgs (tops 30)) (defBody (tops 30)) (defScope (tops 30)) .none kV185 dc185 pm185 an185 cd185 ct185), sl185⟩)
    (c185 : PySem.W.codeIn K cd185 "_law_acts" = true)
    (k185 : PySem.W.keepIn K (.ref f185) = true)
    (a193 : PySem.W.nsIn K mainGlobals "acts" = some (some (.ref f193)))
    (l193 : K.lookup f193 = some ⟨oc193, od193, .func (PySem.W.fnOf "acts" "acts" (defArgs (tops 14)) (defBody (tops 14)) (defScope (tops 14)) .none kV193 dc193 pm193 an193 cd193 ct193), sl193⟩)
    (c193 : PySem.W.codeIn K cd193 "acts" = true)
    (k193 : PySem.W.keepIn K (.ref f193) = true)
    (a194 : PySem.W.nsIn K mainGlobals "table" = some (some (.ref f194)))
    (l194 : K.lookup f194 = some ⟨oc194, od194, .func (PySem.W.fnOf "table" "table" (defArgs (tops 15)) (defBody (tops 15)) (defScope (tops 15)) .none kV194 dc194 pm194 an194 cd194 ct194), sl194⟩)
    (c194 : PySem.W.codeIn K cd194 "table" = true)
    (k194 : PySem.W.keepIn K (.ref f194) = true)
    (a386 : PySem.W.nsIn K mainGlobals "group_about" = some (some (.ref f386)))
    (l386 : K.lookup f386 = some ⟨oc386, od386, .func (PySem.W.fnOf "group_about" "group_about" (defArgs (tops 17)) (defBody (tops 17)) (defScope (tops 17)) .none kV386 dc386 pm386 an386 cd386 ct386), sl386⟩)
    (c386 : PySem.W.codeIn K cd386 "group_about" = true)
    (k386 : PySem.W.keepIn K (.ref f386) = true)
    (a387 : PySem.W.nsIn K mainGlobals "groups_of" = some (some (.ref f387)))
    (l387 : K.lookup f387 = some ⟨oc387, od387, .func (PySem.W.fnOf "groups_of" "groups_of" (defArgs (tops 18)) (defBody (tops 18)) (defScope (tops 18)) .none kV387 dc387 pm387 an387 cd387 ct387), sl387⟩)
    (c387 : PySem.W.codeIn K cd387 "groups_of" = true)
    (k387 : PySem.W.keepIn K (.ref f387) = true)
    (a524 : PySem.W.nsIn K mainGlobals "_law_asked" = some (some (.ref f524)))
    (l524 : K.lookup f524 = some ⟨oc524, od524, .func (PySem.W.fnOf "_law_asked" "_law_asked" (defArgs (tops 38)) (defBody (tops 38)) (defScope (tops 38)) .none kV524 dc524 pm524 an524 cd524 ct524), sl524⟩)
    (c524 : PySem.W.codeIn K cd524 "_law_asked" = true)
    (k524 : PySem.W.keepIn K (.ref f524) = true)
    (a525 : PySem.W.nsIn K mainGlobals "_law_join" = some (some (.ref f525)))
    (l525 : K.lookup f525 = some ⟨oc525, od525, .func (PySem.W.fnOf "_law_join" "_law_join" (defArgs (tops 31)) (defBody (tops 31)) (defScope (tops 31)) .none kV525 dc525 pm525 an525 cd525 ct525), sl525⟩)
    (c525 : PySem.W.codeIn K cd525 "_law_join" = true)
    (k525 : PySem.W.keepIn K (.ref f525) = true)
    (a526 : PySem.W.nsIn K mainGlobals "_law_group" = some (some (.ref f526)))
    (l526 : K.lookup f526 = some ⟨oc526, od526, .func (PySem.W.fnOf "_law_group" "_law_group" (defArgs (tops 32)) (defBody (tops 32)) (defScope (tops 32)) .none kV526 dc526 pm526 an526 cd526 ct526), sl526⟩)
    (c526 : PySem.W.codeIn K cd526 "_law_group" = true)
    (k526 : PySem.W.keepIn K (.ref f526) = true)
    (a527 : PySem.W.nsIn K mainGlobals "_law_due" = some (some (.ref f527)))
    (l527 : K.lookup f527 = some ⟨oc527, od527, .func (PySem.W.fnOf "_law_due" "_law_due" (defArgs (tops 33)) (defBody (tops 33)) (defScope (tops 33)) .none kV527 dc527 pm527 an527 cd527 ct527), sl527⟩)
    (c527 : PySem.W.codeIn K cd527 "_law_due" = true)
    (k527 : PySem.W.keepIn K (.ref f527) = true)
    (a69 : PySem.W.nsIn K mainGlobals "_law_same" = some (some (.ref f69)))
    (l69 : K.lookup f69 = some ⟨oc69, od69, .func (PySem.W.fnOf "_law_same" "_law_same" (defArgs (tops 29)) (defBody (tops 29)) (defScope (tops 29)) .none kV69 dc69 pm69 an69 cd69 ct69), sl69⟩)
    (c69 : PySem.W.codeIn K cd69 "_law_same" = true)
    (k69 : PySem.W.keepIn K (.ref f69) = true)
    (a213 : PySem.W.nsIn K mainGlobals "_law_kinds" = some (some (.ref f213)))
    (l213 : K.lookup f213 = some ⟨oc213, od213, .func (PySem.W.fnOf "_law_kinds" "_law_kinds" (defArgs (tops 36)) (defBody (tops 36)) (defScope (tops 36)) .none kV213 dc213 pm213 an213 cd213 ct213), sl213⟩)
    (c213 : PySem.W.codeIn K cd213 "_law_kinds" = true)
    (k213 : PySem.W.keepIn K (.ref f213) = true)
    (a27 : PySem.W.nsIn K mainGlobals "_law_after" = some (some (.ref f27)))
    (l27 : K.lookup f27 = some ⟨oc27, od27, .func (PySem.W.fnOf "_law_after" "_law_after" (defArgs (tops 23)) (defBody (tops 23)) (defScope (tops 23)) .none kV27 dc27 pm27 an27 cd27 ct27), sl27⟩)
    (c27 : PySem.W.codeIn K cd27 "_law_after" = true)
    (k27 : PySem.W.keepIn K (.ref f27) = true)
    (a171 : PySem.W.nsIn K mainGlobals "_law_act" = some (some (.ref f171)))
    (l171 : K.lookup f171 = some ⟨oc171, od171, .func (PySem.W.fnOf "_law_act" "_law_act" (defArgs (tops 34)) (defBody (tops 34)) (defScope (tops 34)) .none kV171 dc171 pm171 an171 cd171 ct171), sl171⟩)
    (c171 : PySem.W.codeIn K cd171 "_law_act" = true)
    (k171 : PySem.W.keepIn K (.ref f171) = true)
    (a15 : PySem.W.nsIn K mainGlobals "_law_is_word" = some (some (.ref f15)))
    (l15 : K.lookup f15 = some ⟨oc15, od15, .func (PySem.W.fnOf "_law_is_word" "_law_is_word" (defArgs (tops 35)) (defBody (tops 35)) (defScope (tops 35)) .none kV15 dc15 pm15 an15 cd15 ct15), sl15⟩)
    (c15 : PySem.W.codeIn K cd15 "_law_is_word" = true)
    (k15 : PySem.W.keepIn K (.ref f15) = true)
    (a214 : PySem.W.nsIn K mainGlobals "_law_refused_well" = some (some (.ref f214)))
    (l214 : K.lookup f214 = some ⟨oc214, od214, .func (PySem.W.fnOf "_law_refused_well" "_law_refused_well" (defArgs (tops 37)) (defBody (tops 37)) (defScope (tops 37)) .none kV214 dc214 pm214 an214 cd214 ct214), sl214⟩)
    (c214 : PySem.W.codeIn K cd214 "_law_refused_well" = true)
    (k214 : PySem.W.keepIn K (.ref f214) = true)
    (a528 : PySem.W.nsIn K mainGlobals "_law_twice_refused" = some (some (.ref f528)))
    (l528 : K.lookup f528 = some ⟨oc528, od528, .func (PySem.W.fnOf "_law_twice_refused" "_law_twice_refused" (defArgs (tops 39)) (defBody (tops 39)) (defScope (tops 39)) .none kV528 dc528 pm528 an528 cd528 ct528), sl528⟩)
    (c528 : PySem.W.codeIn K cd528 "_law_twice_refused" = true)
    (k528 : PySem.W.keepIn K (.ref f528) = true)
    (a529 : PySem.W.nsIn K mainGlobals "law" = some (some (.ref f529)))
    (l529 : K.lookup f529 = some ⟨oc529, od529, .func (PySem.W.fnOf "law" "law" (defArgs (tops 40)) (defBody (tops 40)) (defScope (tops 40)) .none kV529 dc529 pm529 an529 cd529 ct529), sl529⟩)
    (c529 : PySem.W.codeIn K cd529 "law" = true)
    (k529 : PySem.W.keepIn K (.ref f529) = true)
    (z_range : PySem.W.nsIn K mainGlobals "range" = some none)
    (z_len : PySem.W.nsIn K mainGlobals "len" = some none)
    (z_tuple : PySem.W.nsIn K mainGlobals "tuple" = some none)
    (z_int : PySem.W.nsIn K mainGlobals "int" = some none)
    (z_any : PySem.W.nsIn K mainGlobals "any" = some none)
    (z_isinstance : PySem.W.nsIn K mainGlobals "isinstance" = some none)
    (z_bool : PySem.W.nsIn K mainGlobals "bool" = some none)
    (z_str : PySem.W.nsIn K mainGlobals "str" = some none)
    (z_list : PySem.W.nsIn K mainGlobals "list" = some none)
    (z_ValueError : PySem.W.nsIn K mainGlobals "ValueError" = some none)
    (g179 : PySem.W.nsIn K mainGlobals "MOST" = some (some (.int 40 t179)))
    (aC59 : PySem.W.nsIn K mainGlobals "TooGreat" = some (some (.ref C59)))
    (lC59 : K.lookup C59 = some (excClassObj nm59 qq59 C59 N59_ bs59 bm59 true sn59 sb59 ab59 col59 dd59 kk0_59 kk1_59 kk2_59 kk3_59 kk5_59 "ValueError.__new__"))
    (vC59 : PySem.HandSPX.refsVE bm59 = true)
    (sC59 : PySem.W.findIn K (.ref C59) "__setattr__" = some (some (.builtin "object.__setattr__")))
    (kC59 : PySem.W.keepIn K (.ref C59) = true)
    (eC59 : PySem.W.subIn K (.ref C59) (.type "BaseException") = some true)
    (tC59 : PySem.W.typeIn K (.ref C59) = some (.type "type"))
    (iC59 : PySem.W.findIn K (.ref C59) "__init__" = some (some (.ref fi59)))
    (uC59 : PySem.W.typeIn K (.ref fi59) = some (.type "function"))
    (li59 : K.lookup fi59 = some ⟨oci59, odi59, .func (PySem.W.fnOf "__init__" "TooGreat.__init__" (defArgs (inner 0 (tops 10))) (defBody (inner 0 (tops 10))) (defScope (inner 0 (tops 10))) .none kVi59 dci59 pmi59 ani59 cdi59 cti59), sli59⟩)
    (ci59 : PySem.W.codeIn K cdi59 "TooGreat.__init__" = true)
    (ki59 : PySem.W.keepIn K (.ref fi59) = true)
    (nf59_0 : PySem.W.findIn K (.ref C59) "words" = some none)
    (aCB : PySem.W.nsIn K mainGlobals "RoomError" = some (some (.ref CB)))
    (gB1 : PySem.W.specialIn K (.ref CB) "__getattribute__" = some (some (.builtin "type.__getattribute__")))
    (gB2 : PySem.W.typeIn K (.ref CB) = some (.type "type"))
    (gB3 : PySem.W.readsIn K CB (.type "type") = true)
    (gB4 : PySem.W.findCls K (.ref CB) (.type "type") "__init__" = some (.val (.builtin "ValueError.__init__")))
    (aC1 : PySem.W.nsIn K mainGlobals "RoomError" = some (some (.ref C1)))
    (aC2 : PySem.W.nsIn K mainGlobals "NoLetters" = some (some (.ref C2)))
    (aC3 : PySem.W.nsIn K mainGlobals "NoWord" = some (some (.ref C3)))
    (aC4 : PySem.W.nsIn K mainGlobals "NoNumber" = some (some (.ref C4)))
    (aC21 : PySem.W.nsIn K mainGlobals "NoRoom" = some (some (.ref C21)))
    (aC55 : PySem.W.nsIn K mainGlobals "NoMachine" = some (some (.ref C55)))
    (aC56 : PySem.W.nsIn K mainGlobals "OtherLetters" = some (some (.ref C56)))
    (aC57 : PySem.W.nsIn K mainGlobals "TooMany" = some (some (.ref C57)))
    (aC58 : PySem.W.nsIn K mainGlobals "NoPattern" = some (some (.ref C58)))
    (aC60 : PySem.W.nsIn K mainGlobals "NoKind" = some (some (.ref C60)))
    (j11 : PySem.W.subIn K (.ref C1) (.type "BaseException") = some true)
    (j12 : PySem.W.hasDictIn K C1 = true)
    (j13 : PySem.W.typeIn K (.ref C1) = some (.type "type"))
    (m59_1 : PySem.W.subIn K (.ref C59) (.ref C1) = some true)
    (q59_2 : PySem.W.kitOne K (.ref C59) (.ref C2) = some false)
    (qn_2 : PySem.W.kitOne K (.type "NoneType") (.ref C2) = some false)
    (q59_3 : PySem.W.kitOne K (.ref C59) (.ref C3) = some false)
    (qn_3 : PySem.W.kitOne K (.type "NoneType") (.ref C3) = some false)
    (q59_4 : PySem.W.kitOne K (.ref C59) (.ref C4) = some false)
    (qn_4 : PySem.W.kitOne K (.type "NoneType") (.ref C4) = some false)
    (q59_21 : PySem.W.kitOne K (.ref C59) (.ref C21) = some false)
    (qn_21 : PySem.W.kitOne K (.type "NoneType") (.ref C21) = some false)
    (q59_55 : PySem.W.kitOne K (.ref C59) (.ref C55) = some false)
    (qn_55 : PySem.W.kitOne K (.type "NoneType") (.ref C55) = some false)
    (q59_56 : PySem.W.kitOne K (.ref C59) (.ref C56) = some false)
    (qn_56 : PySem.W.kitOne K (.type "NoneType") (.ref C56) = some false)
    (q59_57 : PySem.W.kitOne K (.ref C59) (.ref C57) = some false)
    (qn_57 : PySem.W.kitOne K (.type "NoneType") (.ref C57) = some false)
    (q59_58 : PySem.W.kitOne K (.ref C59) (.ref C58) = some false)
    (qn_58 : PySem.W.kitOne K (.type "NoneType") (.ref C58) = some false)
    (q59_59 : PySem.W.kitOne K (.ref C59) (.ref C59) = some true)
    (qn_59 : PySem.W.kitOne K (.type "NoneType") (.ref C59) = some false)
    (q59_60 : PySem.W.kitOne K (.ref C59) (.ref C60) = some false)
    (qn_60 : PySem.W.kitOne K (.type "NoneType") (.ref C60) = some false)
    (q59_ve : PySem.W.kitOne K (.ref C59) (.type "ValueError") = some true)
    (h591 : (PySem.W.clsIn K C59).isSome = true)
    (h592 : PySem.W.findIn K (.ref C59) "__getattribute__" = some (some (.builtin "BaseException.__getattribute__")))
    (h593 : PySem.W.findIn K (.ref C59) "__getattr__" = some none)
    (h594 : PySem.W.findIn K (.ref C59) "__class__" = some (some (.builtin "object.__class__")))
    (h595 : PySem.W.mroIn K C59 (.type "object") = some true)
    (hg1 : PySem.W.specialIn K (.builtin "object.__class__") "__get__" = some (some (.builtin "getset_descriptor.__get__")))
    (hg2 : PySem.W.takesIn K (.builtin "object.__class__") = some true)
    (qd59 : PySem.W.hasDictIn K C59 = true)
    : ∃ fd : FuncData, (∀ (s : Shared) (v : Value), BindsTo s fd ⟨[v], []⟩ [("_law_script", v)]) ∧ ∀ base : Heap, K.In base → base.Ns mainGlobals mg → FnOk P w K mg base (L2.CX P w) 9 fa fd ["_law_script"] (spLaw K) := by
  have e := hfa.symm.trans (PySem.W.mg_of X G a529)
  cases e
  refine ⟨PySem.W.fnOf "law" "law" (defArgs (tops 40)) (defBody (tops 40)) (defScope (tops 40)) .none kV529 dc529 pm529 an529 cd529 ct529, fun s v => .of_eq rfl, fun base _ _ => ?_⟩
  have hy : ∀ z : Prop, FHy s_law_top_65 x_law_top_65 k_law_top_65 (O1s (fun n => match n with | 59 => C59 | _ => 0) (fun n => match n with | 59 => ["words"] | _ => []) op20 z) P w K mg base := by
    intro z
    let O : OpT := O1s (fun n => match n with | 59 => C59 | _ => 0) (fun n => match n with | 59 => ["words"] | _ => []) op20 z
    have Bc : BasC K mg CB := ⟨PySem.W.mg_of X G aCB, gB1, gB2, gB3, gB4⟩
    have Fi59 := fun_mk (st := (inner 0 (tops 10))) li59 ci59 ki59
    have bi59 := Fi59.binds (ps := ["self", "words"]) fun _ _ _ _ _ _ us hl => match us, hl with | [_, _], _ => rfl
    have Ni59 := init_ok (P := P) (w := w) (mg := mg) (base := base) (C := C59) (f1 := "words") (p1 := "words") (fs := []) (ps := []) Fi59 sci59 Bc (by decide +kernel) rfl (by decide) (by decide +kernel) (by decide +kernel) (by decide +kernel) (nf_cons nf59_0 nf_nil)
    have Ef59 : ErrI { toOpT := O, P := P, w := w, K := K, mg := mg, base := base } "TooGreat" 59 ["words"] := ⟨PySem.W.mg_of X G aC59, ⟨⟨_, _, _, _, _, _, _, _, _, _, _, _, _, _, _, lC59, vC59⟩, sC59, eC59, tC59, kC59⟩, ⟨_, _, _, iC59, uC59, Ni59, bi59⟩, rfl, by decide, by decide⟩
    have Q59 : ErrC K C59 ∧ ErrAt O 59 := ⟨⟨h591, h592, h593, eC59, h594, hg1, hg2, h595⟩, O1s_at rfl⟩
    have I2 : IscOk K mg O "NoLetters" [] [59] := isc_mk (PySem.W.mg_of X G aC2) qn_2 cc_nil (cc_cons q59_2 cc_nil) cc_nil (cc_cons Q59 cc_nil)
    have I3 : IscOk K mg O "NoWord" [] [59] := isc_mk (PySem.W.mg_of X G aC3) qn_3 cc_nil (cc_cons q59_3 cc_nil) cc_nil (cc_cons Q59 cc_nil)
    have I4 : IscOk K mg O "NoNumber" [] [59] := isc_mk (PySem.W.mg_of X G aC4) qn_4 cc_nil (cc_cons q59_4 cc_nil) cc_nil (cc_cons Q59 cc_nil)
    have I21 : IscOk K mg O "NoRoom" [] [59] := isc_mk (PySem.W.mg_of X G aC21) qn_21 cc_nil (cc_cons q59_21 cc_nil) cc_nil (cc_cons Q59 cc_nil)
    have I55 : IscOk K mg O "NoMachine" [] [59] := isc_mk (PySem.W.mg_of X G aC55) qn_55 cc_nil (cc_cons q59_55 cc_nil) cc_nil (cc_cons Q59 cc_nil)
    have I56 : IscOk K mg O "OtherLetters" [] [59] := isc_mk (PySem.W.mg_of X G aC56) qn_56 cc_nil (cc_cons q59_56 cc_nil) cc_nil (cc_cons Q59 cc_nil)
    have I57 : IscOk K mg O "TooMany" [] [59] := isc_mk (PySem.W.mg_of X G aC57) qn_57 cc_nil (cc_cons q59_57 cc_nil) cc_nil (cc_cons Q59 cc_nil)
    have I58 : IscOk K mg O "NoPattern" [] [59] := isc_mk (PySem.W.mg_of X G aC58) qn_58 cc_nil (cc_cons q59_58 cc_nil) cc_nil (cc_cons Q59 cc_nil)
    have I59 : IscOk K mg O "TooGreat" [59] [] := isc_mk (PySem.W.mg_of X G aC59) qn_59 (cc_cons q59_59 cc_nil) cc_nil (cc_cons Q59 cc_nil) cc_nil
    have I60 : IscOk K mg O "NoKind" [] [59] := isc_mk (PySem.W.mg_of X G aC60) qn_60 cc_nil (cc_cons q59_60 cc_nil) cc_nil (cc_cons Q59 cc_nil)
    have Ive : IscOk K mg O "ValueError" [59] [] := isc_ve (PySem.W.mg_none_of X G z_ValueError) (cc_cons q59_ve cc_nil) (cc_cons Q59 cc_nil)
    have Fl59_0 : FldOk { toOpT := O, P := P, w := w, K := K, mg := mg, base := base } 59 0 "words" := ⟨⟨h592, h593, eC59, qd59⟩, nf59_0, rfl, (by show (["words"] : List Str).Nodup; decide), O1s_at rfl⟩
    have T1 : TrOk K mg O "RoomError" [59] [] := ⟨⟨_, PySem.W.mg_of X G aC1, (cc_cons (PySem.W.exm_ref j11 j12 j13 m59_1) cc_nil), cc_nil⟩, (cc_cons (O1s_op rfl) cc_nil)⟩
    have F22 := fun_mk (st := (tops 21)) l22 c22 k22
    have N22 := fnok_of (O := O) (P := P) (w := w) (K := K) (mg := mg) (base := base) (S := s_law_letters_2) (xs := x_law_letters_2) (n := 22) (m := m_law_letters_2) (qual := "_law_letters") (ir := i_law_letters_2) F22 sc_law_letters_2 ck_law_letters_2 (bs_cons (PySem.W.mg_none_of X G z_range) (bs_cons (PySem.W.mg_none_of X G z_len) bs_nil)) us_nil gs_nil xs_nil ts_nil ys_nil tr_nil mk_run
    have b22 := F22.binds (ps := ["_law_cell"]) fun _ _ _ _ _ _ us hl => match us, hl with | [_], _ => rfl
    have K22 := fok_mk (S := s_law_letters_2) (n := 22) N22 F22.kp b22 (PySem.W.mg_of X G a22)
    have F6 := fun_mk (st := (tops 20)) l6 c6 k6
    have N6 := fnok_of (O := O) (P := P) (w := w) (K := K) (mg := mg) (base := base) (S := s_law_cell_at) (xs := x_law_cell_at) (n := 6) (m := m_law_cell_at) (qual := "_law_cell_at") (ir := i_law_cell_at) F6 sc_law_cell_at ck_law_cell_at (bs_cons (PySem.W.mg_none_of X G z_len) bs_nil) us_nil gs_nil xs_nil ts_nil ys_nil tr_nil mk_run
    have b6 := F6.binds (ps := ["_law_script", "_law_k"]) fun _ _ _ _ _ _ us hl => match us, hl with | [_, _], _ => rfl
    have K6 := fok_mk (S := s_law_cell_at) (n := 6) N6 F6.kp b6 (PySem.W.mg_of X G a6)
    have F23 := fun_mk (st := (tops 22)) l23 c23 k23
    have N23 := fnok_of (O := O) (P := P) (w := w) (K := K) (mg := mg) (base := base) (S := s_law_machine) (xs := x_law_machine) (n := 23) (m := m_law_machine) (qual := "_law_machine") (ir := i_law_machine) F23 sc_law_machine ck_law_machine (bs_cons (PySem.W.mg_none_of X G z_range) (bs_cons (PySem.W.mg_none_of X G z_tuple) bs_nil)) (us_cons (f := f_law_machine) (K6.mono (by first | decide | omega)) us_nil) gs_nil xs_nil ts_nil ys_nil tr_nil mk_run
    have b23 := F23.binds (ps := ["_law_script", "_law_at", "_law_rooms", "_law_letters_here"]) fun _ _ _ _ _ _ us hl => match us, hl with | [_, _, _, _], _ => rfl
    have K23 := fok_mk (S := s_law_machine) (n := 23) N23 F23.kp b23 (PySem.W.mg_of X G a23)
    have F180 := fun_mk (st := (tops 24)) l180 c180 k180
    have N180 := fnok_of (O := O) (P := P) (w := w) (K := K) (mg := mg) (base := base) (S := s_law_turns) (xs := x_law_turns) (n := 180) (m := m_law_turns) (qual := "_law_turns") (ir := i_law_turns) F180 sc_law_turns ck_law_turns (bs_cons (PySem.W.mg_none_of X G z_range) (bs_cons (PySem.W.mg_none_of X G z_tuple) (bs_cons (PySem.W.mg_none_of X G z_len) bs_nil))) (us_cons (f := f_law_turns) (K6.mono (by first | decide | omega)) us_nil) gs_nil xs_nil ts_nil ys_nil tr_nil mk_run
    have b180 := F180.binds (ps := ["_law_script", "_law_letters_here"]) fun _ _ _ _ _ _ us hl => match us, hl with | [_, _], _ => rfl
    have K180 := fok_mk (S := s_law_turns) (n := 180) N180 F180.kp b180 (PySem.W.mg_of X G a180)
    have F181 := fun_mk (st := (tops 25)) l181 c181 k181
    have N181 := fnok_of (O := O) (P := P) (w := w) (K := K) (mg := mg) (base := base) (S := s_law_order) (xs := x_law_order) (n := 181) (m := m_law_order) (qual := "_law_order") (ir := i_law_order) F181 sc_law_order ck_law_order (bs_cons (PySem.W.mg_none_of X G z_range) bs_nil) us_nil gs_nil xs_nil ts_nil ys_nil tr_nil mk_run
    have b181 := F181.binds (ps := ["_law_cell", "_law_many"]) fun _ _ _ _ _ _ us hl => match us, hl with | [_, _], _ => rfl
    have K181 := fok_mk (S := s_law_order) (n := 181) N181 F181.kp b181 (PySem.W.mg_of X G a181)
    have F182 := fun_mk (st := (tops 26)) l182 c182 k182
    have N182 := fnok_of (O := O) (P := P) (w := w) (K := K) (mg := mg) (base := base) (S := s_law_third) (xs := x_law_third) (n := 182) (m := m_law_third) (qual := "_law_third") (ir := i_law_third) F182 sc_law_third ck_law_third bs_nil us_nil gs_nil xs_nil ts_nil ys_nil tr_nil mk_run
    have b182 := F182.binds (ps := ["_law_kind", "_law_room"]) fun _ _ _ _ _ _ us hl => match us, hl with | [_, _], _ => rfl
    have K182 := fok_mk (S := s_law_third) (n := 182) N182 F182.kp b182 (PySem.W.mg_of X G a182)
    have F183 := fun_mk (st := (tops 27)) l183 c183 k183
    have N183 := fnok_of (O := O) (P := P) (w := w) (K := K) (mg := mg) (base := base) (S := s_law_forty) (xs := x_law_forty) (n := 183) (m := m_law_forty) (qual := "_law_forty") (ir := i_law_forty) F183 sc_law_forty ck_law_forty (bs_cons (PySem.W.mg_none_of X G z_int) (bs_cons (PySem.W.mg_none_of X G z_range) (bs_cons (PySem.W.mg_none_of X G z_tuple) (bs_cons (PySem.W.mg_none_of X G z_len) bs_nil)))) (us_cons (f := f_law_forty) (K181.mono (by first | decide | omega)) (us_cons (f := f_law_forty) (K6.mono (by first | decide | omega)) (us_cons (f := f_law_forty) (K182.mono (by first | decide | omega)) us_nil))) gs_nil xs_nil ts_nil ys_nil tr_nil mk_run
    have b183 := F183.binds (ps := ["_law_script", "_law_letters_here"]) fun _ _ _ _ _ _ us hl => match us, hl with | [_, _], _ => rfl
    have K183 := fok_mk (S := s_law_forty) (n := 183) N183 F183.kp b183 (PySem.W.mg_of X G a183)
    have F184 := fun_mk (st := (tops 28)) l184 c184 k184
    have N184 := fnok_of (O := O) (P := P) (w := w) (K := K) (mg := mg) (base := base) (S := s_law_acting) (xs := x_law_acting) (n := 184) (m := m_law_acting) (qual := "_law_acting") (ir := i_law_acting) F184 sc_law_acting ck_law_acting bs_nil (us_cons (f := f_law_acting) (K6.mono (by first | decide | omega)) (us_cons (f := f_law_acting) (K23.mono (by first | decide | omega)) (us_cons (f := f_law_acting) (K180.mono (by first | decide | omega)) (us_cons (f := f_law_acting) (K183.mono (by first | decide | omega)) us_nil)))) gs_nil xs_nil ts_nil ys_nil tr_nil mk_run
    have b184 := F184.binds (ps := ["_law_script", "_law_letters_here"]) fun _ _ _ _ _ _ us hl => match us, hl with | [_, _], _ => rfl
    have K184 := fok_mk (S := s_law_acting) (n := 184) N184 F184.kp b184 (PySem.W.mg_of X G a184)
    have F185 := fun_mk (st := (tops 30)) l185 c185 k185
    have N185 := fnok_of (O := O) (P := P) (w := w) (K := K) (mg := mg) (base := base) (S := s_law_acts) (xs := x_law_acts) (n := 185) (m := m_law_acts) (qual := "_law_acts") (ir := i_law_acts) F185 sc_law_acts ck_law_acts (bs_cons (PySem.W.mg_none_of X G z_tuple) (bs_cons (PySem.W.mg_none_of X G z_range) (bs_cons (PySem.W.mg_none_of X G z_len) bs_nil))) us_nil gs_nil xs_nil (ts_cons rgt_ok ts_nil) ys_nil tr_nil mk_run
    have b185 := F185.binds (ps := ["_law_machine_here"]) fun _ _ _ _ _ _ us hl => match us, hl with | [_], _ => rfl
    have K185 := fok_mk (S := s_law_acts) (n := 185) N185 F185.kp b185 (PySem.W.mg_of X G a185)
    have F193 := fun_mk (st := (tops 14)) l193 c193 k193
    have N193 := fnok_of (O := O) (P := P) (w := w) (K := K) (mg := mg) (base := base) (S := s_acts_2) (xs := x_acts_2) (n := 193) (m := m_acts_2) (qual := "acts") (ir := i_acts_2) F193 sc_acts_2 ck_acts_2 (bs_cons (PySem.W.mg_none_of X G z_len) (bs_cons (PySem.W.mg_none_of X G z_range) (bs_cons (PySem.W.mg_none_of X G z_tuple) bs_nil))) us_nil (gs_cons (f := f_acts_2) ⟨false, .int 40, .int 40, .int 40 t179, rfl, PySem.W.mg_of X G g179, ⟨t179, rfl⟩, fun B H => .int _⟩ gs_nil) xs_nil (ts_cons rgt_ok ts_nil) (ys_cons (rsx_ok Ef59 rfl (by decide)) ys_nil) tr_nil mk_run
    have b193 := F193.binds (ps := ["machine"]) fun _ _ _ _ _ _ us hl => match us, hl with | [_], _ => rfl
    have K193 := fok_mk (S := s_acts_2) (n := 193) N193 F193.kp b193 (PySem.W.mg_of X G a193)
    have F194 := fun_mk (st := (tops 15)) l194 c194 k194
    have N194 := fnok_of (O := O) (P := P) (w := w) (K := K) (mg := mg) (base := base) (S := s_table_2) (xs := x_table_2) (n := 194) (m := m_table_2) (qual := "table") (ir := i_table_2) F194 sc_table_2 ck_table_2 (bs_cons (PySem.W.mg_none_of X G z_range) (bs_cons (PySem.W.mg_none_of X G z_len) (bs_cons (PySem.W.mg_none_of X G z_tuple) bs_nil))) (us_cons (f := f_table_2) (K193.mono (by first | decide | omega)) us_nil) gs_nil xs_nil ts_nil ys_nil tr_nil mk_run
    have b194 := F194.binds (ps := ["machine"]) fun _ _ _ _ _ _ us hl => match us, hl with | [_], _ => rfl
    have K194 := fok_mk (S := s_table_2) (n := 194) N194 F194.kp b194 (PySem.W.mg_of X G a194)
    have F386 := fun_mk (st := (tops 17)) l386 c386 k386
    have N386 := fnok_of (O := O) (P := P) (w := w) (K := K) (mg := mg) (base := base) (S := s_group_about) (xs := x_group_about) (n := 386) (m := m_group_about) (qual := "group_about") (ir := i_group_about) F386 sc_group_about ck_group_about (bs_cons (PySem.W.mg_none_of X G z_any) (bs_cons (PySem.W.mg_none_of X G z_range) (bs_cons (PySem.W.mg_none_of X G z_len) bs_nil))) us_nil gs_nil xs_nil ts_nil ys_nil tr_nil mk_run
    have b386 := F386.binds (ps := ["rows", "once"]) fun _ _ _ _ _ _ us hl => match us, hl with | [_, _], _ => rfl
    have K386 := fok_mk (S := s_group_about) (n := 386) N386 F386.kp b386 (PySem.W.mg_of X G a386)
    have F387 := fun_mk (st := (tops 18)) l387 c387 k387
    have N387 := fnok_of (O := O) (P := P) (w := w) (K := K) (mg := mg) (base := base) (S := s_groups_of) (xs := x_groups_of) (n := 387) (m := m_groups_of) (qual := "groups_of") (ir := i_groups_of) F387 sc_groups_of ck_groups_of (bs_cons (PySem.W.mg_none_of X G z_range) (bs_cons (PySem.W.mg_none_of X G z_len) bs_nil)) (us_cons (f := f_groups_of) (K194.mono (by first | decide | omega)) (us_cons (f := f_groups_of) (K386.mono (by first | decide | omega)) us_nil)) gs_nil xs_nil ts_nil ys_nil tr_nil mk_run
    have b387 := F387.binds (ps := ["machine"]) fun _ _ _ _ _ _ us hl => match us, hl with | [_], _ => rfl
    have K387 := fok_mk (S := s_groups_of) (n := 387) N387 F387.kp b387 (PySem.W.mg_of X G a387)
    have F524 := fun_mk (st := (tops 38)) l524 c524 k524
    have N524 := fnok_of (O := O) (P := P) (w := w) (K := K) (mg := mg) (base := base) (S := s_law_asked_6) (xs := x_law_asked_6) (n := 524) (m := m_law_asked_6) (qual := "_law_asked") (ir := i_law_asked_6) F524 sc_law_asked_6 ck_law_asked_6 bs_nil (us_cons (f := f_law_asked_6) (K387.mono (by first | decide | omega)) us_nil) gs_nil xs_nil ts_nil ys_nil (tr_cons T1 tr_nil) mk_run
    have b524 := F524.binds (ps := ["_law_machine_here"]) fun _ _ _ _ _ _ us hl => match us, hl with | [_], _ => rfl
    have K524 := fok_mk (S := s_law_asked_6) (n := 524) N524 F524.kp b524 (PySem.W.mg_of X G a524)
    have F525 := fun_mk (st := (tops 31)) l525 c525 k525
    have N525 := fnok_of (O := O) (P := P) (w := w) (K := K) (mg := mg) (base := base) (S := s_law_join) (xs := x_law_join) (n := 525) (m := m_law_join) (qual := "_law_join") (ir := i_law_join) F525 sc_law_join ck_law_join (bs_cons (PySem.W.mg_none_of X G z_tuple) bs_nil) us_nil gs_nil xs_nil ts_nil ys_nil tr_nil mk_run
    have b525 := F525.binds (ps := ["_law_one", "_law_other"]) fun _ _ _ _ _ _ us hl => match us, hl with | [_, _], _ => rfl
    have K525 := fok_mk (S := s_law_join) (n := 525) N525 F525.kp b525 (PySem.W.mg_of X G a525)
    have F526 := fun_mk (st := (tops 32)) l526 c526 k526
    have N526 := fnok_of (O := O) (P := P) (w := w) (K := K) (mg := mg) (base := base) (S := s_law_group) (xs := x_law_group) (n := 526) (m := m_law_group) (qual := "_law_group") (ir := i_law_group) F526 sc_law_group ck_law_group (bs_cons (PySem.W.mg_none_of X G z_range) (bs_cons (PySem.W.mg_none_of X G z_len) (bs_cons (PySem.W.mg_none_of X G z_any) bs_nil))) (us_cons (f := f_law_group) (K525.mono (by first | decide | omega)) us_nil) gs_nil xs_nil ts_nil ys_nil tr_nil mk_run
    have b526 := F526.binds (ps := ["_law_found", "_law_once"]) fun _ _ _ _ _ _ us hl => match us, hl with | [_, _], _ => rfl
    have K526 := fok_mk (S := s_law_group) (n := 526) N526 F526.kp b526 (PySem.W.mg_of X G a526)
    have F527 := fun_mk (st := (tops 33)) l527 c527 k527
    have N527 := fnok_of (O := O) (P := P) (w := w) (K := K) (mg := mg) (base := base) (S := s_law_due_3) (xs := x_law_due_3) (n := 527) (m := m_law_due_3) (qual := "_law_due") (ir := i_law_due_3) F527 sc_law_due_3 ck_law_due_3 (bs_cons (PySem.W.mg_none_of X G z_range) (bs_cons (PySem.W.mg_none_of X G z_len) bs_nil)) (us_cons (f := f_law_due_3) (K525.mono (by first | decide | omega)) (us_cons (f := f_law_due_3) (K526.mono (by first | decide | omega)) us_nil)) gs_nil xs_nil ts_nil ys_nil tr_nil mk_run
    have b527 := F527.binds (ps := ["_law_found"]) fun _ _ _ _ _ _ us hl => match us, hl with | [_], _ => rfl
    have K527 := fok_mk (S := s_law_due_3) (n := 527) N527 F527.kp b527 (PySem.W.mg_of X G a527)
    have F69 := fun_mk (st := (tops 29)) l69 c69 k69
    have b69 := F69.binds (ps := ["_law_found", "_law_due_here"]) fun _ _ _ _ _ _ us hl => match us, hl with | [_, _], _ => rfl
    have R69 : ∀ k, FOk { toOpT := O, P := P, w := w, K := K, mg := mg, base := base } nms (0 + k) 69 (r_law_same k) := by
      intro k
      induction k with
      | zero => exact ⟨_, _, _, PySem.W.mg_of X G a69, F69.kp, b69, fnok_no⟩
      | succ k ih =>
        have N69 := fnok_of (O := O) (P := P) (w := w) (K := K) (mg := mg) (base := base) (S := s_law_same k) (xs := x_law_same) (n := 69) (m := r_law_same (k + 1)) (qual := "_law_same") (ir := i_law_same) F69 sc_law_same (ck_law_same k) (bs_cons (PySem.W.mg_none_of X G z_isinstance) (bs_cons (PySem.W.mg_none_of X G z_bool) (bs_cons (PySem.W.mg_none_of X G z_int) (bs_cons (PySem.W.mg_none_of X G z_str) (bs_cons (PySem.W.mg_none_of X G z_tuple) (bs_cons (PySem.W.mg_none_of X G z_list) (bs_cons (PySem.W.mg_none_of X G z_range) (bs_cons (PySem.W.mg_none_of X G z_len) bs_nil)))))))) (us_cons (f := f_law_same (r_law_same k)) ih us_nil) gs_nil xs_nil ts_nil ys_nil tr_nil mk_run
        exact fok_mk (S := s_law_same k) (n := 69) N69 F69.kp b69 (PySem.W.mg_of X G a69)
    have K69 : FOk { toOpT := O, P := P, w := w, K := K, mg := mg, base := base } nms 8 69 m_law_same := R69 8
    have F213 := fun_mk (st := (tops 36)) l213 c213 k213
    have N213 := fnok_of (O := O) (P := P) (w := w) (K := K) (mg := mg) (base := base) (S := s_law_kinds_7) (xs := x_law_kinds_7) (n := 213) (m := m_law_kinds_7) (qual := "_law_kinds") (ir := i_law_kinds_7) F213 sc_law_kinds_7 ck_law_kinds_7 (bs_cons (PySem.W.mg_none_of X G z_isinstance) bs_nil) us_nil gs_nil xs_nil (ts_cons (isc_ok I2) (ts_cons (isc_ok I3) (ts_cons (isc_ok I4) (ts_cons (isc_ok I21) (ts_cons (isc_ok I55) (ts_cons (isc_ok I56) (ts_cons (isc_ok I57) (ts_cons (isc_ok I58) (ts_cons (isc_ok I59) (ts_cons (isc_ok I60) (ts_cons (isc_ok Ive) ts_nil))))))))))) ys_nil tr_nil mk_run
    have b213 := F213.binds (ps := ["_law_e"]) fun _ _ _ _ _ _ us hl => match us, hl with | [_], _ => rfl
    have K213 := fok_mk (S := s_law_kinds_7) (n := 213) N213 F213.kp b213 (PySem.W.mg_of X G a213)
    have F27 := fun_mk (st := (tops 23)) l27 c27 k27
    have N27 := fnok_of (O := O) (P := P) (w := w) (K := K) (mg := mg) (base := base) (S := s_law_after) (xs := x_law_after) (n := 27) (m := m_law_after) (qual := "_law_after") (ir := i_law_after) F27 sc_law_after ck_law_after bs_nil us_nil gs_nil xs_nil ts_nil ys_nil tr_nil mk_run
    have b27 := F27.binds (ps := ["_law_machine_here", "_law_room", "_law_word"]) fun _ _ _ _ _ _ us hl => match us, hl with | [_, _, _], _ => rfl
    have K27 := fok_mk (S := s_law_after) (n := 27) N27 F27.kp b27 (PySem.W.mg_of X G a27)
    have F171 := fun_mk (st := (tops 34)) l171 c171 k171
    have N171 := fnok_of (O := O) (P := P) (w := w) (K := K) (mg := mg) (base := base) (S := s_law_act) (xs := x_law_act) (n := 171) (m := m_law_act) (qual := "_law_act") (ir := i_law_act) F171 sc_law_act ck_law_act (bs_cons (PySem.W.mg_none_of X G z_tuple) (bs_cons (PySem.W.mg_none_of X G z_range) (bs_cons (PySem.W.mg_none_of X G z_len) bs_nil))) (us_cons (f := f_law_act) (K27.mono (by first | decide | omega)) us_nil) gs_nil xs_nil ts_nil ys_nil tr_nil mk_run
    have b171 := F171.binds (ps := ["_law_machine_here", "_law_word"]) fun _ _ _ _ _ _ us hl => match us, hl with | [_, _], _ => rfl
    have K171 := fok_mk (S := s_law_act) (n := 171) N171 F171.kp b171 (PySem.W.mg_of X G a171)
    have F15 := fun_mk (st := (tops 35)) l15 c15 k15
    have N15 := fnok_of (O := O) (P := P) (w := w) (K := K) (mg := mg) (base := base) (S := s_law_is_word) (xs := x_law_is_word) (n := 15) (m := m_law_is_word) (qual := "_law_is_word") (ir := i_law_is_word) F15 sc_law_is_word ck_law_is_word (bs_cons (PySem.W.mg_none_of X G z_isinstance) (bs_cons (PySem.W.mg_none_of X G z_str) (bs_cons (PySem.W.mg_none_of X G z_len) bs_nil))) us_nil gs_nil xs_nil ts_nil ys_nil tr_nil mk_run
    have b15 := F15.binds (ps := ["_law_found", "_law_letters_here"]) fun _ _ _ _ _ _ us hl => match us, hl with | [_, _], _ => rfl
    have K15 := fok_mk (S := s_law_is_word) (n := 15) N15 F15.kp b15 (PySem.W.mg_of X G a15)
    have F214 := fun_mk (st := (tops 37)) l214 c214 k214
    have N214 := fnok_ofK (O := O) (P := P) (w := w) (K := K) (mg := mg) (base := base) (S := s_law_refused_well_2) (xs := x_law_refused_well_2) (ks := k_law_refused_well_2) (n := 214) (m := m_law_refused_well_2) (qual := "_law_refused_well") (ws := w_law_refused_well_2) F214 sc_law_refused_well_2 ck_law_refused_well_2 (fun z => absurd z (by decide)) (bs_cons (PySem.W.mg_none_of X G z_len) (bs_cons (PySem.W.mg_none_of X G z_isinstance) (bs_cons (PySem.W.mg_none_of X G z_list) bs_nil))) (us_cons (f := f_law_refused_well_2) (K213.mono (by first | decide | omega)) (us_cons (f := f_law_refused_well_2) (K171.mono (by first | decide | omega)) (us_cons (f := f_law_refused_well_2) (K15.mono (by first | decide | omega)) us_nil))) ks_nil gs_nil xs_nil (ts_cons (fld_ok Fl59_0) ts_nil) ys_nil tr_nil mkW_run
    have b214 := F214.binds (ps := ["_law_caught", "_law_machine_here"]) fun _ _ _ _ _ _ us hl => match us, hl with | [_, _], _ => rfl
    have K214 := fokK_mk (S := s_law_refused_well_2) (n := 214) N214 F214.kp b214 (PySem.W.mg_of X G a214)
    have F528 := fun_mk (st := (tops 39)) l528 c528 k528
    have N528 := fnok_ofK (O := O) (P := P) (w := w) (K := K) (mg := mg) (base := base) (S := s_law_twice_refused_2) (xs := x_law_twice_refused_2) (ks := k_law_twice_refused_2) (n := 528) (m := m_law_twice_refused_2) (qual := "_law_twice_refused") (ws := w_law_twice_refused_2) F528 sc_law_twice_refused_2 ck_law_twice_refused_2 (fun z => absurd z (by decide)) (bs_cons (PySem.W.mg_none_of X G z_range) bs_nil) (us_cons (f := f_law_twice_refused_2) (K524.mono (by first | decide | omega)) us_nil) (ks_cons (f := f_law_twice_refused_2) (K214.mono (by first | decide | omega)) ks_nil) gs_nil xs_nil ts_nil ys_nil tr_nil mkW_run
    have b528 := F528.binds (ps := ["_law_machine_here"]) fun _ _ _ _ _ _ us hl => match us, hl with | [_], _ => rfl
    have K528 := fokK_mk (S := s_law_twice_refused_2) (n := 528) N528 F528.kp b528 (PySem.W.mg_of X G a528)
    have F529 := fun_mk (st := (tops 40)) l529 c529 k529
    exact ⟨(bs_cons (PySem.W.mg_none_of X G z_len) bs_nil), (us_cons (f := f_law_top_65) (K22.mono (by first | decide | omega)) (us_cons (f := f_law_top_65) (K184.mono (by first | decide | omega)) (us_cons (f := f_law_top_65) (K185.mono (by first | decide | omega)) (us_cons (f := f_law_top_65) (K524.mono (by first | decide | omega)) (us_cons (f := f_law_top_65) (K527.mono (by first | decide | omega)) (us_cons (f := f_law_top_65) (K69.mono (by first | decide | omega)) (us_cons (f := f_law_top_65) (K6.mono (by first | decide | omega)) us_nil))))))), (ks_cons (f := f_law_top_65) (K528.mono (by first | decide | omega)) ks_nil), gs_nil, xs_nil, ts_nil, ys_nil, tr_nil⟩
  have F529 := fun_mk (st := (tops 40)) l529 c529 k529
  have N529 := fnok_ofU (O := O1s (fun n => match n with | 59 => C59 | _ => 0) (fun n => match n with | 59 => ["words"] | _ => []) op20 True) (O' := O1s (fun n => match n with | 59 => C59 | _ => 0) (fun n => match n with | 59 => ["words"] | _ => []) op20 False) (P := P) (w := w) (K := K) (mg := mg) (base := base) (S := s_law_top_65) (xs := x_law_top_65) (ks := k_law_top_65) (n := 529) (m := m_law_top_65) (qual := "law") (ws := w_law_top_65) F529 sc_law_top_65 ck_law_top_65 (by decide) (hy True) (hy False) (fun z => z) mkW_run
  exact law_ofK N529 law_holds
end RA
open PySem PySem.W PyProof.Rows
theorem PySem.W.Fast.tw9389541736095942603 : True := trivial
theorem PySem.W.Fast.tw16984209932063289780 : True := trivial
theorem PySem.W.Fast.tw2538812160031101557 : True := trivial
theorem PySem.W.Fast.tw14957119025305212728 : True := trivial
set_option maxRecDepth 100000 in
set_option maxHeartbeats 0 in
theorem PySem.Challenge.cw_roomalgebra_k62_groups_of_acts_holds : PySem.Challenge.rw_roomalgebra_k62_groups_of_acts.Holds := by
  w_on; o_law; k_head; (case hw => w_witness2)
  k_fill
  refine L2.walk_of (l := PySem.Challenge.rw_roomalgebra_k62_groups_of_acts) (n := 63) (k := 9) (x := "_law_script") (CX := fun w => L2.CX PySem.Challenge.rw_roomalgebra_k62_groups_of_acts.prog w) (sp := fun w => RA.spLaw _) rfl (by decide) rfl ⟨rfl, by decide, by decide⟩ (fun w h Y => PySem.W.kIn_of Y) ?F (fun _ _ a ns hl _ hS => ⟨a, ns, rfl, hS, hl, fun _ => rfl⟩) (fun w H s e s2 z => RA.cx_end z)
  case F =>
    intro w mg fa h KX G hmg
    refine' RA.all_mk KX G hmg ?ra_a22 ?ra_l22 ?ra_c22 ?ra_k22 ?ra_a6 ?ra_l6 ?ra_c6 ?ra_k6 ?ra_a23 ?ra_l23 ?ra_c23 ?ra_k23 ?ra_a180 ?ra_l180 ?ra_c180 ?ra_k180 ?ra_a181 ?ra_l181 ?ra_c181 ?ra_k181 ?ra_a182 ?ra_l182 ?ra_c182 ?ra_k182 ?ra_a183 ?ra_l183 ?ra_c183 ?ra_k183 ?ra_a184 ?ra_l184 ?ra_c184 ?ra_k184 ?ra_a185 ?ra_l185 ?ra_c185 ?ra_k185 ?ra_a193 ?ra_l193 ?ra_c193 ?ra_k193 ?ra_a194 ?ra_l194 ?ra_c194 ?ra_k194 ?ra_a386 ?ra_l386 ?ra_c386 ?ra_k386 ?ra_a387 ?ra_l387 ?ra_c387 ?ra_k387 ?ra_a524 ?ra_l524 ?ra_c524 ?ra_k524 ?ra_a525 ?ra_l525 ?ra_c525 ?ra_k525 ?ra_a526 ?ra_l526 ?ra_c526 ?ra_k526 ?ra_a527 ?ra_l527 ?ra_c527 ?ra_k527 ?ra_a69 ?ra_l69 ?ra_c69 ?ra_k69 ?ra_a213 ?ra_l213 ?ra_c213 ?ra_k213 ?ra_a27 ?ra_l27 ?ra_c27 ?ra_k27 ?ra_a171 ?ra_l171 ?ra_c171 ?ra_k171 ?ra_a15 ?ra_l15 ?ra_c15 ?ra_k15 ?ra_a214 ?ra_l214 ?ra_c214 ?ra_k214 ?ra_a528 ?ra_l528 ?ra_c528 ?ra_k528 ?ra_a529 ?ra_l529 ?ra_c529 ?ra_k529 ?ra_z_range ?ra_z_len ?ra_z_tuple ?ra_z_int ?ra_z_any ?ra_z_isinstance ?ra_z_bool ?ra_z_str ?ra_z_list ?ra_z_ValueError ?ra_g179 ?ra_aC59 ?ra_lC59 ?ra_vC59 ?ra_sC59 ?ra_kC59 ?ra_eC59 ?ra_tC59 ?ra_iC59 ?ra_uC59 ?ra_li59 ?ra_ci59 ?ra_ki59 ?ra_nf59_0 ?ra_aCB ?ra_gB1 ?ra_gB2 ?ra_gB3 ?ra_gB4 ?ra_aC1 ?ra_aC2 ?ra_aC3 ?ra_aC4 ?ra_aC21 ?ra_aC55 ?ra_aC56 ?ra_aC57 ?ra_aC58 ?ra_aC60 ?ra_j11 ?ra_j12 ?ra_j13 ?ra_m59_1 ?ra_q59_2 ?ra_qn_2 ?ra_q59_3 ?ra_qn_3 ?ra_q59_4 ?ra_qn_4 ?ra_q59_21 ?ra_qn_21 ?ra_q59_55 ?ra_qn_55 ?ra_q59_56 ?ra_qn_56 ?ra_q59_57 ?ra_qn_57 ?ra_q59_58 ?ra_qn_58 ?ra_q59_59 ?ra_qn_59 ?ra_q59_60 ?ra_qn_60 ?ra_q59_ve ?ra_h591 ?ra_h592 ?ra_h593 ?ra_h594 ?ra_h595 ?ra_hg1 ?ra_hg2 ?ra_qd59
    (case ra_a22 => k_is); (case ra_l22 => k_is); (case ra_c22 => k_is); (case ra_k22 => k_is); (case ra_a6 => k_is); (case ra_l6 => k_is)
    (case ra_c6 => k_is); (case ra_k6 => k_is); (case ra_a23 => k_is); (case ra_l23 => k_is); (case ra_c23 => k_is); (case ra_k23 => k_is)
    (case ra_a180 => k_is); (case ra_l180 => k_is); (case ra_c180 => k_is); (case ra_k180 => k_is); (case ra_a181 => k_is); (case ra_l181 => k_is)
    (case ra_c181 => k_is); (case ra_k181 => k_is); (case ra_a182 => k_is); (case ra_l182 => k_is); (case ra_c182 => k_is); (case ra_k182 => k_is)
    (case ra_a183 => k_is); (case ra_l183 => k_is); (case ra_c183 => k_is); (case ra_k183 => k_is); (case ra_a184 => k_is); (case ra_l184 => k_is)
    (case ra_c184 => k_is); (case ra_k184 => k_is); (case ra_a185 => k_is); (case ra_l185 => k_is); (case ra_c185 => k_is); (case ra_k185 => k_is)
    (case ra_a193 => k_is); (case ra_l193 => k_is); (case ra_c193 => k_is); (case ra_k193 => k_is); (case ra_a194 => k_is); (case ra_l194 => k_is)
    (case ra_c194 => k_is); (case ra_k194 => k_is); (case ra_a386 => k_is); (case ra_l386 => k_is); (case ra_c386 => k_is); (case ra_k386 => k_is)
    (case ra_a387 => k_is); (case ra_l387 => k_is); (case ra_c387 => k_is); (case ra_k387 => k_is); (case ra_a524 => k_is); (case ra_l524 => k_is)
    (case ra_c524 => k_is); (case ra_k524 => k_is); (case ra_a525 => k_is); (case ra_l525 => k_is); (case ra_c525 => k_is); (case ra_k525 => k_is)
    (case ra_a526 => k_is); (case ra_l526 => k_is); (case ra_c526 => k_is); (case ra_k526 => k_is); (case ra_a527 => k_is); (case ra_l527 => k_is)
    (case ra_c527 => k_is); (case ra_k527 => k_is); (case ra_a69 => k_is); (case ra_l69 => k_is); (case ra_c69 => k_is); (case ra_k69 => k_is)
    (case ra_a213 => k_is); (case ra_l213 => k_is); (case ra_c213 => k_is); (case ra_k213 => k_is); (case ra_a27 => k_is); (case ra_l27 => k_is)
    (case ra_c27 => k_is); (case ra_k27 => k_is); (case ra_a171 => k_is); (case ra_l171 => k_is); (case ra_c171 => k_is); (case ra_k171 => k_is)
    (case ra_a15 => k_is); (case ra_l15 => k_is); (case ra_c15 => k_is); (case ra_k15 => k_is); (case ra_a214 => k_is); (case ra_l214 => k_is)
    (case ra_c214 => k_is); (case ra_k214 => k_is); (case ra_a528 => k_is); (case ra_l528 => k_is); (case ra_c528 => k_is); (case ra_k528 => k_is)
    (case ra_a529 => k_is); (case ra_l529 => k_is); (case ra_c529 => k_is); (case ra_k529 => k_is); (case ra_z_range => k_is); (case ra_z_len => k_is)
    (case ra_z_tuple => k_is); (case ra_z_int => k_is); (case ra_z_any => k_is); (case ra_z_isinstance => k_is); (case ra_z_bool => k_is); (case ra_z_str => k_is)
    (case ra_z_list => k_is); (case ra_z_ValueError => k_is); (case ra_g179 => first | k_is | rfl); (case ra_aC59 => k_is); (case ra_lC59 => first | k_is | rfl); (case ra_vC59 => first | k_is | rfl | decide)
    (case ra_sC59 => first | k_is | rfl); (case ra_kC59 => k_is); (case ra_eC59 => k_is); (case ra_tC59 => k_is); (case ra_iC59 => k_is); (case ra_uC59 => k_is)
    (case ra_li59 => k_is); (case ra_ci59 => k_is); (case ra_ki59 => k_is); (case ra_nf59_0 => first | k_is | rfl); (case ra_aCB => k_is); (case ra_gB1 => first | k_is | rfl)
    (case ra_gB2 => first | k_is | rfl); (case ra_gB3 => first | k_is | rfl); (case ra_gB4 => first | k_is | rfl); (case ra_aC1 => k_is); (case ra_aC2 => k_is); (case ra_aC3 => k_is)
    (case ra_aC4 => k_is); (case ra_aC21 => k_is); (case ra_aC55 => k_is); (case ra_aC56 => k_is); (case ra_aC57 => k_is); (case ra_aC58 => k_is)
    (case ra_aC60 => k_is); (case ra_j11 => k_is); (case ra_j12 => k_is); (case ra_j13 => k_is); (case ra_m59_1 => first | k_is | rfl); (case ra_q59_2 => first | k_is | rfl)
    (case ra_qn_2 => first | k_is | rfl); (case ra_q59_3 => first | k_is | rfl); (case ra_qn_3 => first | k_is | rfl); (case ra_q59_4 => first | k_is | rfl); (case ra_qn_4 => first | k_is | rfl); (case ra_q59_21 => first | k_is | rfl)
    (case ra_qn_21 => first | k_is | rfl); (case ra_q59_55 => first | k_is | rfl); (case ra_qn_55 => first | k_is | rfl); (case ra_q59_56 => first | k_is | rfl); (case ra_qn_56 => first | k_is | rfl); (case ra_q59_57 => first | k_is | rfl)
    (case ra_qn_57 => first | k_is | rfl); (case ra_q59_58 => first | k_is | rfl); (case ra_qn_58 => first | k_is | rfl); (case ra_q59_59 => first | k_is | rfl); (case ra_qn_59 => first | k_is | rfl); (case ra_q59_60 => first | k_is | rfl)
    (case ra_qn_60 => first | k_is | rfl); (case ra_q59_ve => first | k_is | rfl); (case ra_h591 => first | k_is | rfl); (case ra_h592 => first | k_is | rfl); (case ra_h593 => first | k_is | rfl); (case ra_h594 => first | k_is | rfl)
    (case ra_h595 => first | k_is | rfl); (case ra_hg1 => first | k_is | rfl); (case ra_hg2 => first | k_is | rfl); (case ra_qd59 => first | k_is | rfl)
